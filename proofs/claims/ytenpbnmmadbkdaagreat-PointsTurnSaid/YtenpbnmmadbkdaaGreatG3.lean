/- Parts of the row's proof: 15 texts in one. No condition but those stated. -/
import Derived.Test.YtenpbnmmadbkdaaGreatG2
import Derived.Deep.LoopGhost
import Derived.BigGuardPart
import Derived.Deep.CutBlock
import Derived.Deep.RegionHeld3

/- nats.Sub: the difference, and whether there is one. -/
namespace Go.Proofs.YtenpbnmmadbkdaaGreat
open Go.RowKit
attribute [local go_sem ↓] Go.wp_at_zero Go.wp_at_succ

theorem heldf (W0 : World) : ∀ w' : World, Below W0.heap.size W0 w' → ∀ b o, b < W0.heap.size → w'.frozen? ⟨b, o, none⟩ = W0.frozen? ⟨b, o, none⟩ := fun _ h b o hb => h.frozen (p := ⟨b, o, none⟩) hb

theorem sb_lt (d e c : Nat) : sb d e c < 4294967296 := Nat.mod_lt _ (by decide)
theorem bor_le (d e c : Nat) : bor d e c ≤ 1 := by unfold bor; split <;> omega
theorem sb_bor {d e c : Nat} (hd : d < 4294967296) (he : e < 4294967296) (hc : c ≤ 1) : sb d e c + e + c = d + 4294967296 * bor d e c := by
  unfold sb bor
  split <;> omega

theorem sub_step {A X Y c P d e : Nat} (hd : d < 4294967296) (he : e < 4294967296) (hc : c ≤ 1) (h : A + Y = X + c * P) :
    A + sb d e c * P + (Y + e * P) = X + d * P + bor d e c * (4294967296 * P) := by
  have h1 := sb_bor hd he hc
  have h2 : (sb d e c + e + c) * P = (d + 4294967296 * bor d e c) * P := by rw [h1]
  rw [Nat.add_mul, Nat.add_mul, Nat.add_mul, Nat.mul_comm 4294967296, Nat.mul_assoc] at h2
  omega

def SubRow (x y j ln b c : Nat) (wr : World) : Prop :=
  ∃ F : Nat → Nat, Ws wr b c F ∧ (∀ t, t < wl x → F t < 4294967296) ∧ (∀ t, j ≤ t → t < wl x → F t = dg x t) ∧ vl F j + vl (dg y) j = vl (dg x) j + ln * bp j

theorem SubRow.step {x y j ln b c : Nat} {wr : World} (h : SubRow x y j ln b c wr) (hl : ln ≤ 1) :
    SubRow x y (j + 1) (bor (dg x j) (dg y j) ln) b c (wr.setCell ⟨b, j, none⟩ (.int .u32 ((sb (dg x j) (dg y j) ln : Nat) : Int))) := by
  obtain ⟨F, h1, h2, h3, h4⟩ := h
  refine ⟨_, h1.set j _, fun t ht => ?_, fun t h5 h6 => ?_, ?_⟩
  · by_cases e : t = j
    · simp only [e, if_true]; exact sb_lt _ _ _
    · simp only [e, if_false]; exact h2 t ht
  · simp only [show ¬ t = j by omega, if_false]; exact h3 t (by omega) h6
  · rw [vl_succ, vl_succ, vl_succ, bp_succ, if_pos rfl, vl_congr (g := F) (fun i hi => by simp [show ¬ i = j by omega])]
    exact sub_step (dg_lt _ _) (dg_lt _ _) hl h4

theorem SubRow.done {x y ln b c : Nat} {wr : World} (h : SubRow x y (wl x) ln b c wr) (hxy : y ≤ x) : ∃ F : Nat → Nat, Ws wr b c F ∧ (∀ t, t < wl x → F t < 4294967296) ∧ vl F (wl x) = x - y := by
  obtain ⟨F, h1, h2, _, h4⟩ := h
  refine ⟨F, h1, h2, ?_⟩
  have a := lt_bp_wl x
  have d := vl_lt h2
  rw [vl_dg_of_lt (by omega), vl_dg_of_lt (by omega)] at h4
  rcases Nat.eq_zero_or_pos ln with e | e
  · rw [e] at h4; omega
  · have : 1 * bp (wl x) ≤ ln * bp (wl x) := Nat.mul_le_mul_right _ e
    omega

theorem sub32_zero (a c : Nat) (w : World) (ha : a < 4294967296) (hc : c ≤ 1) :
    Calls Tryz.prog 103 #[.int .u32 a, .int .u32 0, .int .u32 c] w fun e w' => e = .returned (.tuple #[.int .u32 ((sb a 0 c : Nat) : Int), .int .u32 ((bor a 0 c : Nat) : Int)]) ∧ w = w' := sub32_any a 0 c w ha (by decide) hc

set_option maxHeartbeats 1600000 in
set_option maxRecDepth 100000 in
theorem sub_any (x y : Nat) (w : World) (hx : wl x ≤ 1099511627776) (hy : wl y ≤ 1099511627776) :
    Calls Tryz.prog 76 #[(Value.agg #[.int .u64 (lo (x)), .string (bg (x))]), (Value.agg #[.int .u64 (lo (y)), .string (bg (y))])] w fun e w' => e = .returned (.tuple #[(Value.agg #[.int .u64 (lo (x - y)), .string (bg (x - y))]), .bool (decide (y ≤ x))]) ∧ Below w.heap.size w w' := by
  obtain ⟨W0, HW⟩ : ∃ W0, Hid (((w.alloc (.cells #[.int .u64 ((lo x : Nat) : Int), .string (bg x)] 30)).alloc (.cells #[.int .u64 ((lo y : Nat) : Int), .string (bg y)] 30)).alloc (.cells #[.int .u64 0, .string ⟨#[]⟩] 30) = W0) := ⟨_, Lib.hid rfl⟩
  have HS := Lib.hid (show w.heap.size + 3 = W0.heap.size by rw [← HW.out]; simp)
  have hza : w.heap.size < W0.heap.size := by rw [← HS.out]; omega
  have hzb : w.heap.size + 1 < W0.heap.size := by rw [← HS.out]; omega
  have hzc : w.heap.size + 1 + 1 < W0.heap.size := by rw [← HS.out]; omega
  have hka : W0.cell? ⟨w.heap.size, 0, none⟩ = some (.int .u64 ((lo x : Nat) : Int)) := by rw [← HW.out]; simp [go_sem]
  have hkb : W0.cell? ⟨w.heap.size, 1, none⟩ = some (.string (bg x)) := by rw [← HW.out]; simp [go_sem]
  have hkc : W0.cell? ⟨w.heap.size + 1, 0, none⟩ = some (.int .u64 ((lo y : Nat) : Int)) := by rw [← HW.out]; simp [go_sem]
  have hkd : W0.cell? ⟨w.heap.size + 1, 1, none⟩ = some (.string (bg y)) := by rw [← HW.out]; simp [go_sem]
  have hke : W0.cell? ⟨w.heap.size + 1 + 1, 0, none⟩ = some (.int .u64 0) := by rw [← HW.out]; simp [go_sem]
  have hkf : W0.cell? ⟨w.heap.size + 1 + 1, 1, none⟩ = some (.string ⟨#[]⟩) := by rw [← HW.out]; simp [go_sem]
  have hkg : W0.frozen? ⟨w.heap.size + 1 + 1, 0, none⟩ = false := by rw [← HW.out]; simp [go_sem]
  have hkh : W0.frozen? ⟨w.heap.size + 1 + 1, 1, none⟩ = false := by rw [← HW.out]; simp [go_sem]
  have h0 := Lib.hid (show Below w.heap.size w W0 by rw [← HW.out]; exact (((Below.refl _ _).alloc (Nat.le_refl _) _).alloc (by simp) _).alloc (by simp; omega) _)
  by_cases hxy : y ≤ x
  · rw [decide_eq_true hxy]
    have hcm : decide (cmpI (x : Int) (y : Int) < 0) = false := decide_eq_false (by unfold cmpI; split <;> omega)
    have HXY := Lib.hid hxy
    clear hxy
    by_cases hs : x < 18446744073709551616
    · have p1 : (bg x).toList.isEmpty = true := by rw [isEmpty_bg, decide_eq_true hs]
      have e1 : ((lo x : Nat) : Int) - ((lo y : Nat) : Int) = ((x - y : Nat) : Int) := by rw [lo_small hs, lo_small (by have := HXY.out; omega)]; have := HXY.out; omega
      have e2 : ((x - y : Nat) : Int) < 18446744073709551616 := by omega
      have HSM := Lib.hid hs
      clear hs
      rw [lo_small (show x - y < 18446744073709551616 by omega), bg_small (show x - y < 18446744073709551616 by omega)]
      obtain ⟨z, hz⟩ : ∃ z, x - y = z := ⟨_, rfl⟩
      rw [hz] at e1 e2 ⊢
      clear hz
      have E2 : IntKind.u64.wrap (z : Int) = (z : Int) := by rw [IntKind.wrap_u64]; omega
      go_enter Tryz.func76, Tryz.ntmps76
      go_wp2_with fail
      rw [HW.out]
      refine (cmp_any x y W0 hx hy).mono ?_
      rintro e w1 ⟨rfl, hb⟩
      have hl1 := held W0 w1 hb
      have hl2 := heldf W0 w1 hb
      have HB := Lib.hid hb
      clear hb
      have hr0 := (hl1 _ 0 hzc).trans hke
      have hr1 := (hl1 _ 1 hzc).trans hkf
      go_wp2
      exact bodyPost_ret (v := .tuple #[.agg #[.int .u64 (z : Int), .string ⟨#[]⟩], .bool true]) (by simp [results, Tryz.results76, go_sem, hr0, hr1]) rfl
        ⟨rfl, sc2 (grow h0.out HB.out) (by show w.heap.size ≤ w.heap.size + 1 + 1; omega)⟩
    · have p1 : (bg x).toList.isEmpty = false := by rw [isEmpty_bg, decide_eq_false hs]
      have hm2 : max 2 (wl x) = wl x := by have := big_wl hs; omega
      have hyx : wl y ≤ wl x := wl_mono HXY.out
      have HM2 := Lib.hid hm2
      clear hm2 hs
      go_enter Tryz.func76, Tryz.ntmps76
      go_wp2_with fail
      rw [HW.out]
      refine (cmp_any x y W0 hx hy).mono ?_
      rintro e w1 ⟨rfl, hb⟩
      have hl1 := held W0 w1 hb
      have HB := Lib.hid hb
      have hk1 := (hl1 _ 0 hza).trans hka
      have hk2 := (hl1 _ 1 hza).trans hkb
      have hk3 := (hl1 _ 0 hzb).trans hkc
      have hk4 := (hl1 _ 1 hzb).trans hkd
      have hs1 := hb.size
      have hz1 : w.heap.size < w1.heap.size := by omega
      have hz2 : w.heap.size + 1 < w1.heap.size := by omega
      clear hb hl1
      go_wp2_with fail
      have hlaw := held w1
      go_region_held3 (fun w' => Below w1.heap.size w1 w') (first | exact (Below.refl _ _).drew | assumption | exact grow (by assumption) (by assumption))
        (first
          | (go_at_call_of 81 (Value.agg #[.int .u64 (lo (x)), .string (bg (x))]); refine (words_any x _ (by omega)).mono ?_; rintro e w2 ⟨b1, c1, rfl, hb1, hc1, hd1, hws1, hbl1⟩)
          | (go_at_call_of 81 (Value.agg #[.int .u64 (lo (y)), .string (bg (y))]); refine (words_any y _ (by omega)).mono ?_; rintro e w3 ⟨b2, c2, rfl, hb2, hc2, hd2, hws2, hbl2⟩))
      have HB3 : Hid (Below w1.heap.size w1 w3) := by assumption
      rw [HM2.out] at hd1
      obtain rfl : c1 = wl x := by omega
      have H1 := Lib.hid (hws1.below hbl2 hws1.lt)
      have H2 := Lib.hid hws2
      have HR0 : Hid (SubRow x y 0 0 b1 (wl x) w3) := ⟨_, H1.out, fun t _ => dg_lt _ _, fun _ _ _ => rfl, rfl⟩
      have hb1' : w1.heap.size ≤ b1 := by simpa using hb1
      have hb2' : w2.heap.size ≤ b2 := hb2
      have hlt1 := hws1.lt
      have hlt2 := hws2.lt
      have hbb : b2 ≠ b1 := by omega
      clear hws1 hws2 hbl1 hbl2 hb1 hb2 hlaw hd1 hd2 H1
      go_wp2_with fail
      go_loopw [8, 31] (fun c i wr => ∃ j ln : Nat, j ≤ wl x ∧ ln ≤ 1 ∧ i = .int .i64 j ∧ c = .int .u32 ln ∧ SubRow x y j ln b1 (wl x) wr ∧ Ws wr b2 c2 (dg y) ∧ Below w1.heap.size w1 wr) (fun _ i _ => wl x - (intOf i).toNat)
      case atStart => exact ⟨0, 0, by omega, by omega, rfl, rfl, HR0.out, H2.out, HB3.out⟩
      case round =>
        obtain ⟨j, ln, hj, hln, rfl, rfl, hrow, hwy, hbel⟩ := hrel
        clear HR0 H2 HB3
        by_cases hjx : j < wl x
        · have HH := Lib.hid hrow
          obtain ⟨F, hF, hF2, hF3, _⟩ := hrow
          have hcell := hF.cell hjx
          rw [hF3 j (Nat.le_refl _) hjx] at hcell
          have hfr := hF.frozen j
          have hdx := dg_lt x j
          have hdy := dg_lt y j
          have HBE := Lib.hid hbel
          have HWY := Lib.hid hwy
          clear hbel hwy hF hF2 hF3
          by_cases hjy : j < wl y
          · have hc2' := HWY.out.cell (show j < c2 by omega)
            go_wp2_with (go_at_call 103; refine (sub32_any _ _ _ _ (by omega) (by omega) (by omega)).mono ?_; rintro e w' ⟨rfl, rfl⟩)
            go_roundw
            case rel =>
              exact ⟨j + 1, bor (dg x j) (dg y j) ln, by omega, bor_le _ _ _, by go_num, rfl, HH.out.step hln, HWY.out.setOther (by exact hbb) _, HBE.out.setCell (by exact hb1') _⟩
            case measure => simp [intOf]; omega
          · have hz : dg y j = 0 := dg_high (lt_bp_wl y) (by omega)
            have HZ2 := Lib.hid hz
            clear hz
            go_wp2_with (go_at_call 103; refine (sub32_zero _ _ _ (by omega) (by omega)).mono ?_; rintro e w' ⟨rfl, rfl⟩)
            go_roundw
            case rel =>
              have hst := HH.out.step hln
              rw [HZ2.out] at hst
              exact ⟨j + 1, bor (dg x j) 0 ln, by omega, bor_le _ _ _, by go_num, rfl, hst, HWY.out.setOther (by exact hbb) _, HBE.out.setCell (by exact hb1') _⟩
            case measure => simp [intOf]; omega
        · obtain rfl : j = wl x := by omega
          obtain ⟨F, hF, hF2, hF3⟩ := hrow.done HXY.out
          have HF := Lib.hid hF
          have HF2 := Lib.hid hF2
          have HF3 := Lib.hid hF3
          have HBE := Lib.hid hbel
          clear hF hF2 hF3 hrow hbel hwy
          go_wp2_with fail
          refine (of_any b1 (wl x) (wl x) F _ (Nat.le_refl _) (by omega) (by omega) (fun i hi => HF.out.cell hi) HF.out.lt HF2.out).mono ?_
          rintro e w5 ⟨rfl, hb5⟩
          rw [HF3.out]
          have hall : Below W0.heap.size W0 w5 := grow (grow HB.out HBE.out) hb5
          have hr0 := (hall.cell (p := ⟨w.heap.size + 1 + 1, 0, none⟩) hzc).trans hke
          have hr1 := (hall.cell (p := ⟨w.heap.size + 1 + 1, 1, none⟩) hzc).trans hkf
          have hf0 := (hall.frozen (p := ⟨w.heap.size + 1 + 1, 0, none⟩) hzc).trans hkg
          have hf1 := (hall.frozen (p := ⟨w.heap.size + 1 + 1, 1, none⟩) hzc).trans hkh
          have HA := Lib.hid hall
          clear hall hb5
          go_wp2
          exact bodyPost_ret (v := .tuple #[(Value.agg #[.int .u64 (lo (x - y)), .string (bg (x - y))]), .bool true]) (by simp [results, Tryz.results76, go_sem, hr0, hr1]) rfl
            ⟨rfl, sc2 (grow h0.out HA.out) (by show w.heap.size ≤ w.heap.size + 1 + 1; omega)⟩
  · rw [decide_eq_false hxy, show x - y = 0 from by omega]
    have hcm : decide (cmpI (x : Int) (y : Int) < 0) = true := decide_eq_true (by rw [cmpI_lt (by omega)]; decide)
    have HXY := Lib.hid hxy
    clear hxy
    rw [show lo 0 = 0 from rfl, show bg 0 = ⟨#[]⟩ from rfl]
    go_enter Tryz.func76, Tryz.ntmps76
    go_wp2_with fail
    rw [HW.out]
    refine (cmp_any x y W0 hx hy).mono ?_
    rintro e w1 ⟨rfl, hb⟩
    have hl1 := held W0 w1 hb
    have hl2 := heldf W0 w1 hb
    have HB := Lib.hid hb
    clear hb
    have hr0 := (hl1 _ 0 hzc).trans hke
    have hr1 := (hl1 _ 1 hzc).trans hkf
    go_wp2
    exact bodyPost_ret (v := .tuple #[.agg #[.int .u64 0, .string ⟨#[]⟩], .bool false]) (by simp [results, Tryz.results76, go_sem, hr0, hr1]) rfl
      ⟨rfl, sc2 (grow h0.out HB.out) (by show w.heap.size ≤ w.heap.size + 1 + 1; omega)⟩
end Go.Proofs.YtenpbnmmadbkdaaGreat


/- nats.Mul: the product. -/
namespace Go.Proofs.YtenpbnmmadbkdaaGreat
open Go.RowKit
attribute [local go_sem ↓] Go.wp_at_zero Go.wp_at_succ

theorem vl_set (F : Nat → Nat) {j N : Nat} (v : Nat) (hj : j < N) : vl (fun t => if t = j then v else F t) N + F j * bp j = vl F N + v * bp j := by
  induction N with
  | zero => omega
  | succ N ih =>
    rw [vl_succ, vl_succ]
    by_cases e : j = N
    · subst e
      rw [if_pos rfl, vl_congr (g := F) (fun i hi => by simp [show ¬ i = j by omega])]
      omega
    · have := ih (by omega)
      rw [if_neg (by omega)]
      omega

theorem mul_step {A A' V y d e f c Yk Pk Pi r q t Pj : Nat} (hPj : Pj = Pi * Pk) (ht : t = d * e + f + c) (hr : r + 4294967296 * q = t)
    (hA : A' + f * Pj = A + r * Pj) (h : A + c * Pj = V * y + d * Yk * Pi) : A' + q * (4294967296 * Pj) = V * y + d * (Yk + e * Pk) * Pi := by
  have h1 : r * Pj + q * (4294967296 * Pj) = (d * e + f + c) * Pj := by rw [← ht, ← hr]; grind
  have h2 : (d * e + f + c) * Pj = d * e * Pj + f * Pj + c * Pj := by grind
  have h3 : d * (Yk + e * Pk) * Pi = d * Yk * Pi + d * e * Pj := by rw [hPj]; grind
  omega

/-- the row inside the product: i words of x are done, and k words of y with the next -/
def MulRow (x y i k c g : Nat) (wr : World) (F : Nat → Nat) : Prop :=
  Ws wr g (wl x + wl y) F ∧ (∀ t, t < wl x + wl y → F t < 4294967296) ∧ (∀ t, i + wl y ≤ t → t < wl x + wl y → F t = 0) ∧ vl F (wl x + wl y) + c * bp (i + k) = vl (dg x) i * y + dg x i * vl (dg y) k * bp i

theorem MulRow.step {x y i k c g : Nat} {wr : World} {F : Nat → Nat} (h : MulRow x y i k c g wr F) (hi : i < wl x) (hk : k < wl y) :
    MulRow x y i (k + 1) ((dg x i * dg y k + F (i + k) + c) / 4294967296) g (wr.setCell ⟨g, i + k, none⟩ (.int .u32 (((dg x i * dg y k + F (i + k) + c) % 4294967296 : Nat) : Int)))
      (fun t => if t = i + k then (dg x i * dg y k + F (i + k) + c) % 4294967296 else F t) := by
  obtain ⟨h1, h2, h3, h4⟩ := h
  refine ⟨h1.set _ _, fun t ht => ?_, fun t h5 h6 => ?_, ?_⟩
  · dsimp only
    split
    · exact Nat.mod_lt _ (by decide)
    · exact h2 t ht
  · dsimp only
    rw [if_neg (by omega)]; exact h3 t (by omega) h6
  · rw [vl_succ, ← Nat.add_assoc, bp_succ]
    exact mul_step (bp_add i k) rfl (Nat.mod_add_div _ _) (vl_set F _ (by omega)) h4

theorem MulRow.next {x y i c g : Nat} {wr : World} {F : Nat → Nat} (h : MulRow x y i (wl y) c g wr F) (hi : i < wl x) (hc : c < 4294967296) :
    MulRow x y (i + 1) 0 0 g (wr.setCell ⟨g, i + wl y, none⟩ (.int .u32 ((c : Nat) : Int))) (fun t => if t = i + wl y then c else F t) := by
  obtain ⟨h1, h2, h3, h4⟩ := h
  refine ⟨h1.set _ _, fun t ht => ?_, fun t h5 h6 => ?_, ?_⟩
  · dsimp only
    split
    · exact hc
    · exact h2 t ht
  · dsimp only
    rw [if_neg (by omega)]; exact h3 t (by omega) h6
  · have h5 := vl_set F c (j := i + wl y) (N := wl x + wl y) (by omega)
    rw [h3 _ (Nat.le_refl _) (by omega)] at h5
    rw [vl_dg_of_lt (lt_bp_wl y)] at h4
    rw [vl_succ, vl_zero]
    have h6 : (vl (dg x) i + dg x i * bp i) * y = vl (dg x) i * y + dg x i * y * bp i := by grind
    rw [h6]
    simp only [Nat.zero_mul, Nat.mul_zero, Nat.add_zero] at h5 ⊢
    omega

theorem MulRow.done {x y g : Nat} {wr : World} {F : Nat → Nat} (h : MulRow x y (wl x) 0 0 g wr F) : Ws wr g (wl x + wl y) F ∧ (∀ t, t < wl x + wl y → F t < 4294967296) ∧ vl F (wl x + wl y) = x * y := by
  obtain ⟨h1, h2, _, h4⟩ := h
  refine ⟨h1, h2, ?_⟩
  rw [vl_dg_of_lt (lt_bp_wl x), vl_zero] at h4
  simpa using h4

theorem MulRow.start {x y g : Nat} {wr : World} (h : Ws wr g (wl x + wl y) fun _ => 0) : MulRow x y 0 0 0 g wr (fun _ => 0) :=
  ⟨h, fun _ _ => (by decide : 0 < 4294967296), fun _ _ _ => rfl, by
    rw [vl_tail (m := 0) (Nat.zero_le _) (fun _ _ _ => rfl)]; simp [vl]⟩

/-- the four words of a product of two numbers below 2^64 -/
theorem ws_four (W : World) (z : Nat) (h : z < 340282366920938463463374607431768211456) (c : Array Value)
    (hc : c = #[.int .u32 (((z % 18446744073709551616 : Nat) : Int) % 4294967296), .int .u32 (((z % 18446744073709551616 : Nat) : Int) / 4294967296), .int .u32 (((z / 18446744073709551616 : Nat) : Int) % 4294967296), .int .u32 (((z / 18446744073709551616 : Nat) : Int) / 4294967296)]) :
    Ws (W.alloc (.cells c 22)) W.heap.size 4 (dg z) := by
  subst hc
  refine World.rowIs_alloc W _ _ _ fun i hi => ?_
  have b2 : bp 2 = 18446744073709551616 := bp_two
  have b3 : bp 3 = 79228162514264337593543950336 := by decide
  match i, hi with
  | 0, _ => simp [dg, bp_zero]
  | 1, _ => simp [dg, bp_one]; omega
  | 2, _ => simp [dg, b2]
  | 3, _ => simp [dg, b3]; omega

set_option maxRecDepth 100000 in
theorem mul_small (x y : Nat) (w : World) (hx : x < 18446744073709551616) (hy : y < 18446744073709551616) :
    Calls Tryz.prog 49 #[(Value.agg #[.int .u64 (lo (x)), .string (bg (x))]), (Value.agg #[.int .u64 (lo (y)), .string (bg (y))])] w fun e w' => e = .returned (Value.agg #[.int .u64 (lo (x * y)), .string (bg (x * y))]) ∧ Below w.heap.size w w' := by
  obtain ⟨W0, HW⟩ : ∃ W0, Hid (((w.alloc (.cells #[.int .u64 ((lo x : Nat) : Int), .string (bg x)] 30)).alloc (.cells #[.int .u64 ((lo y : Nat) : Int), .string (bg y)] 30)).alloc (.cells #[.int .u64 0, .string ⟨#[]⟩] 30) = W0) := ⟨_, Lib.hid rfl⟩
  have HS := Lib.hid (show w.heap.size + 3 = W0.heap.size by rw [← HW.out]; simp)
  have hza : w.heap.size < W0.heap.size := by rw [← HS.out]; omega
  have hzb : w.heap.size + 1 < W0.heap.size := by rw [← HS.out]; omega
  have hzc : w.heap.size + 1 + 1 < W0.heap.size := by rw [← HS.out]; omega
  have hka : W0.cell? ⟨w.heap.size, 0, none⟩ = some (.int .u64 ((lo x : Nat) : Int)) := by rw [← HW.out]; simp [go_sem]
  have hkb : W0.cell? ⟨w.heap.size, 1, none⟩ = some (.string (bg x)) := by rw [← HW.out]; simp [go_sem]
  have hkc : W0.cell? ⟨w.heap.size + 1, 0, none⟩ = some (.int .u64 ((lo y : Nat) : Int)) := by rw [← HW.out]; simp [go_sem]
  have hkd : W0.cell? ⟨w.heap.size + 1, 1, none⟩ = some (.string (bg y)) := by rw [← HW.out]; simp [go_sem]
  have hke : W0.cell? ⟨w.heap.size + 1 + 1, 0, none⟩ = some (.int .u64 0) := by rw [← HW.out]; simp [go_sem]
  have hkf : W0.cell? ⟨w.heap.size + 1 + 1, 1, none⟩ = some (.string ⟨#[]⟩) := by rw [← HW.out]; simp [go_sem]
  have hkg : W0.frozen? ⟨w.heap.size + 1 + 1, 0, none⟩ = false := by rw [← HW.out]; simp [go_sem]
  have hkh : W0.frozen? ⟨w.heap.size + 1 + 1, 1, none⟩ = false := by rw [← HW.out]; simp [go_sem]
  have h0 := Lib.hid (show Below w.heap.size w W0 by rw [← HW.out]; exact (((Below.refl _ _).alloc (Nat.le_refl _) _).alloc (by simp) _).alloc (by simp; omega) _)
  rw [lo_small hx, bg_small hx, lo_small hy, bg_small hy] at *
  have hz : x * y < 340282366920938463463374607431768211456 := by
    have : x * y < 18446744073709551616 * 18446744073709551616 := Nat.mul_lt_mul_of_lt_of_le hx (Nat.le_of_lt hy) (by decide)
    simpa using this
  obtain ⟨z, HZ⟩ : ∃ z, Hid (x * y = z) := ⟨_, Lib.hid rfl⟩
  rw [HZ.out] at hz
  have hv : Hid (vl (dg z) 4 = z) := vl_dg_of_lt (by rw [show bp 4 = 340282366920938463463374607431768211456 from by decide]; exact hz)
  obtain ⟨zl, HL⟩ : ∃ zl, Hid (z % 18446744073709551616 = zl) := ⟨_, Lib.hid rfl⟩
  obtain ⟨zh, HH⟩ : ∃ zh, Hid (z / 18446744073709551616 = zh) := ⟨_, Lib.hid rfl⟩
  have hl : zl < 18446744073709551616 := by rw [← HL.out]; omega
  have hh : zh < 18446744073709551616 := by rw [← HH.out]; omega
  have hzz := Lib.hid hz
  clear hz
  go_enter Tryz.func49, Tryz.ntmps49
  go_wp2_with fail
  refine (mul64_any x y hx hy _).mono ?_
  rintro e w1 ⟨rfl, rfl⟩
  rw [HZ.out, HL.out, HH.out]
  go_wp2_with fail
  rw [HW.out]
  have hw := ws_four W0 z hzz.out #[.int .u32 ((zl : Int) % 4294967296), .int .u32 ((zl : Int) / 4294967296), .int .u32 ((zh : Int) % 4294967296), .int .u32 ((zh : Int) / 4294967296)] (by rw [HL.out, HH.out])
  rw [show W0.heap.size = w.heap.size + 1 + 1 + 1 from HS.out.symm] at hw
  refine (of_any (w.heap.size + 1 + 1 + 1) 4 4 (dg z) _ (Nat.le_refl _) (by omega) (by omega) (fun i hi => hw.cell hi) hw.lt (fun i _ => dg_lt z i)).mono ?_
  rintro e w5 ⟨rfl, hb5⟩
  rw [hv.out, ← HZ.out]
  have hall : Below W0.heap.size W0 w5 := grow ((Below.refl _ _).alloc (Nat.le_refl _) _) hb5
  have hr0 := (hall.cell (p := ⟨w.heap.size + 1 + 1, 0, none⟩) hzc).trans hke
  have hr1 := (hall.cell (p := ⟨w.heap.size + 1 + 1, 1, none⟩) hzc).trans hkf
  have hf0 := (hall.frozen (p := ⟨w.heap.size + 1 + 1, 0, none⟩) hzc).trans hkg
  have hf1 := (hall.frozen (p := ⟨w.heap.size + 1 + 1, 1, none⟩) hzc).trans hkh
  have HA := Lib.hid hall
  clear hall hb5
  go_wp2
  exact bodyPost_ret (v := (Value.agg #[.int .u64 (lo (x * y)), .string (bg (x * y))])) (by simp [results, Tryz.results49, go_sem, hr0, hr1]) rfl
    ⟨rfl, sc2 (grow h0.out HA.out) (by show w.heap.size ≤ w.heap.size + 1 + 1; omega)⟩

set_option maxHeartbeats 1600000 in
set_option maxRecDepth 100000 in
theorem mul_slow (x y : Nat) (w : World) (hx : wl x ≤ 549755813888) (hy : wl y ≤ 549755813888) (h : ¬ (x < 18446744073709551616 ∧ y < 18446744073709551616)) :
    Calls Tryz.prog 49 #[(Value.agg #[.int .u64 (lo (x)), .string (bg (x))]), (Value.agg #[.int .u64 (lo (y)), .string (bg (y))])] w fun e w' => e = .returned (Value.agg #[.int .u64 (lo (x * y)), .string (bg (x * y))]) ∧ Below w.heap.size w w' := by
  obtain ⟨W0, HW⟩ : ∃ W0, Hid (((w.alloc (.cells #[.int .u64 ((lo x : Nat) : Int), .string (bg x)] 30)).alloc (.cells #[.int .u64 ((lo y : Nat) : Int), .string (bg y)] 30)).alloc (.cells #[.int .u64 0, .string ⟨#[]⟩] 30) = W0) := ⟨_, Lib.hid rfl⟩
  have HS := Lib.hid (show w.heap.size + 3 = W0.heap.size by rw [← HW.out]; simp)
  have hza : w.heap.size < W0.heap.size := by rw [← HS.out]; omega
  have hzb : w.heap.size + 1 < W0.heap.size := by rw [← HS.out]; omega
  have hzc : w.heap.size + 1 + 1 < W0.heap.size := by rw [← HS.out]; omega
  have hka : W0.cell? ⟨w.heap.size, 0, none⟩ = some (.int .u64 ((lo x : Nat) : Int)) := by rw [← HW.out]; simp [go_sem]
  have hkb : W0.cell? ⟨w.heap.size, 1, none⟩ = some (.string (bg x)) := by rw [← HW.out]; simp [go_sem]
  have hkc : W0.cell? ⟨w.heap.size + 1, 0, none⟩ = some (.int .u64 ((lo y : Nat) : Int)) := by rw [← HW.out]; simp [go_sem]
  have hkd : W0.cell? ⟨w.heap.size + 1, 1, none⟩ = some (.string (bg y)) := by rw [← HW.out]; simp [go_sem]
  have hke : W0.cell? ⟨w.heap.size + 1 + 1, 0, none⟩ = some (.int .u64 0) := by rw [← HW.out]; simp [go_sem]
  have hkf : W0.cell? ⟨w.heap.size + 1 + 1, 1, none⟩ = some (.string ⟨#[]⟩) := by rw [← HW.out]; simp [go_sem]
  have hkg : W0.frozen? ⟨w.heap.size + 1 + 1, 0, none⟩ = false := by rw [← HW.out]; simp [go_sem]
  have hkh : W0.frozen? ⟨w.heap.size + 1 + 1, 1, none⟩ = false := by rw [← HW.out]; simp [go_sem]
  have h0 := Lib.hid (show Below w.heap.size w W0 by rw [← HW.out]; exact (((Below.refl _ _).alloc (Nat.le_refl _) _).alloc (by simp) _).alloc (by simp; omega) _)
  have hlaw := held W0
  rcases (show ¬ x < 18446744073709551616 ∨ (x < 18446744073709551616 ∧ ¬ y < 18446744073709551616) by omega) with h1 | ⟨h1, h2⟩
  case' inl =>
    have p1 : (bg x).toList.isEmpty = false := by rw [isEmpty_bg, decide_eq_false h1]
    clear h1 h
    go_enter Tryz.func49, Tryz.ntmps49
    go_wp2_with fail
  case' inr =>
    have p1 : (bg x).toList.isEmpty = true := by rw [isEmpty_bg, decide_eq_true h1]
    have p2 : (bg y).toList.isEmpty = false := by rw [isEmpty_bg, decide_eq_false h2]
    clear h1 h2 h
    go_enter Tryz.func49, Tryz.ntmps49
    go_wp2_with fail
  all_goals
    rw [HW.out]
    go_region_held3 (fun w' => Below W0.heap.size W0 w') (first | exact (Below.refl _ _).drew | assumption | exact grow (by assumption) (by assumption))
      (first
        | (go_at_call_of 81 (Value.agg #[.int .u64 (lo (x)), .string (bg (x))]); refine (words_any x _ (by omega)).mono ?_; rintro e w1 ⟨b1, c1, rfl, hb1, hc1, hd1, hws1, hbl1⟩)
        | (go_at_call_of 81 (Value.agg #[.int .u64 (lo (y)), .string (bg (y))]); refine (words_any y _ (by omega)).mono ?_; rintro e w2 ⟨b2, c2, rfl, hb2, hc2, hd2, hws2, hbl2⟩))
    have HB : Hid (Below W0.heap.size W0 w2) := by assumption
    have H1 := Lib.hid (hws1.below hbl2 hws1.lt)
    have H2 := Lib.hid hws2
    have hlt1 := H1.out.lt
    have hlt2 := hws2.lt
    clear hws1 hws2 hbl1 hbl2 hb1 hb2 hlaw hd1 hd2
    have hmk := make_ws ((wl x : Int) + (wl y : Int)) (wl x + wl y) (by omega) (by omega)
    go_wp2_with fail
    have HR0 : Hid (MulRow x y 0 0 0 w2.heap.size (w2.alloc (.cells (madeCells #[.int .u32 0] (wl x + wl y)) 22)) fun _ => 0) := MulRow.start (Ws.made w2 _)
    have HB0 : Hid (Below w2.heap.size w2 (w2.alloc (.cells (madeCells #[.int .u32 0] (wl x + wl y)) 22))) := (Below.refl _ _).alloc (Nat.le_refl _) _
    have HMK := Lib.hid hmk
    clear hmk
    go_loopw [55] (fun i wr => ∃ (i' : Nat) (F : Nat → Nat), i' ≤ wl x ∧ i = .int .i64 i' ∧ MulRow x y i' 0 0 w2.heap.size wr F ∧ Below w2.heap.size w2 wr) (fun i _ => wl x - (intOf i).toNat)
    case atStart => exact ⟨0, _, by omega, rfl, HR0.out, HB0.out⟩
    case round =>
      obtain ⟨i, F, hi, rfl, hrow, hbel⟩ := hrel
      clear HR0 HB0
      by_cases hix : i < wl x
      · have hcx : wr.cell? ⟨b1, i, none⟩ = some (.int .u32 ((dg x i : Nat) : Int)) := by
          rw [hbel.cell (p := ⟨b1, i, none⟩) hlt1]
          exact H1.out.cell (by omega)
        have HH := Lib.hid hrow
        have HBE := Lib.hid hbel
        have hdx := dg_lt x i
        clear hrow hbel
        go_wp2_with fail
        obtain ⟨wo, rfl⟩ : ∃ wo : World, wo = wr := ⟨_, rfl⟩
        have HCX := Lib.hid hcx
        clear hcx
        go_loopw [12, 62] (fun c k wr => ∃ (k' c' : Nat) (G : Nat → Nat), k' ≤ wl y ∧ c' < 4294967296 ∧ k = .int .i64 k' ∧ c = .int .u64 c' ∧ MulRow x y i k' c' w2.heap.size wr G ∧ Below w2.heap.size w2 wr) (fun _ k _ => wl y - (intOf k).toNat)
        case atStart => exact ⟨0, 0, F, by omega, by omega, rfl, rfl, HH.out, HBE.out⟩
        case round =>
          obtain ⟨k, c, G, hk, hc, rfl, rfl, hrow, hbel⟩ := hrel
          by_cases hky : k < wl y
          · have hcy : wr.cell? ⟨b2, k, none⟩ = some (.int .u32 ((dg y k : Nat) : Int)) := by
              rw [hbel.cell (p := ⟨b2, k, none⟩) hlt2]
              exact H2.out.cell (by omega)
            have hcell := hrow.1.cell (show i + k < wl x + wl y by omega)
            have hfr := hrow.1.frozen (i + k)
            have hst := Lib.hid (hrow.step hix hky)
            have hv := hrow.2.1 (i + k) (by omega)
            have hdy := dg_lt y k
            obtain ⟨P, hP, HP⟩ : ∃ P : Nat, ((dg x i : Nat) : Int) * ((dg y k : Nat) : Int) = (P : Int) ∧ Hid (dg x i * dg y k = P) := ⟨dg x i * dg y k, (Int.natCast_mul _ _).symm, Lib.hid rfl⟩
            have hPb : P ≤ 18446744065119617025 := by
              rw [← HP.out]
              exact Nat.mul_le_mul (show dg x i ≤ 4294967295 by omega) (show dg y k ≤ 4294967295 by omega)
            obtain ⟨v, HV⟩ : ∃ v, Hid (G (i + k) = v) := ⟨_, Lib.hid rfl⟩
            rw [HV.out] at hcell hst hv
            rw [HP.out] at hst
            have HBE2 := Lib.hid hbel
            clear hbel hrow
            go_wp2_with fail
            go_roundw
            case rel =>
              have e1 : ((c : Int) + ((P : Int) + (v : Int))) / 4294967296 = (((P + v + c) / 4294967296 : Nat) : Int) := by omega
              have e2 : ((c : Int) + ((P : Int) + (v : Int))) % 4294967296 = (((P + v + c) % 4294967296 : Nat) : Int) := by omega
              exact ⟨k + 1, (P + v + c) / 4294967296, _, by omega, by omega, by go_num, by rw [e1], by rw [e2]; exact hst.out, HBE2.out.setCell (Nat.le_refl _) _⟩
            case measure => simp [intOf]; omega
          · obtain rfl : k = wl y := by omega
            have hcell := hrow.1.cell (show i + wl y < wl x + wl y by omega)
            have hfr := hrow.1.frozen (i + wl y)
            have hst := Lib.hid (hrow.next hix hc)
            have HBE2 := Lib.hid hbel
            clear hbel hrow
            go_wp2_with fail
            go_roundw
            case rel =>
              exact ⟨i + 1, _, by omega, by go_num, hst.out, HBE2.out.setCell (Nat.le_refl _) _⟩
            case measure => simp [intOf]; omega
      · obtain rfl : i = wl x := by omega
        obtain ⟨hF, hF2, hF3⟩ := hrow.done
        have HF := Lib.hid hF
        have HF2 := Lib.hid hF2
        have HF3 := Lib.hid hF3
        have HBE := Lib.hid hbel
        clear hF hF2 hF3 hrow hbel
        go_wp2_with fail
        refine (of_any w2.heap.size (wl x + wl y) (wl x + wl y) F _ (Nat.le_refl _) (by omega) (by omega) (fun i hi => HF.out.cell hi) HF.out.lt HF2.out).mono ?_
        rintro e w5 ⟨rfl, hb5⟩
        rw [HF3.out]
        have hall : Below W0.heap.size W0 w5 := grow (grow HB.out HBE.out) hb5
        have hr0 := (hall.cell (p := ⟨w.heap.size + 1 + 1, 0, none⟩) hzc).trans hke
        have hr1 := (hall.cell (p := ⟨w.heap.size + 1 + 1, 1, none⟩) hzc).trans hkf
        have hf0 := (hall.frozen (p := ⟨w.heap.size + 1 + 1, 0, none⟩) hzc).trans hkg
        have hf1 := (hall.frozen (p := ⟨w.heap.size + 1 + 1, 1, none⟩) hzc).trans hkh
        have HA := Lib.hid hall
        clear hall hb5
        go_wp2
        exact bodyPost_ret (v := (Value.agg #[.int .u64 (lo (x * y)), .string (bg (x * y))])) (by simp [results, Tryz.results49, go_sem, hr0, hr1]) rfl
          ⟨rfl, sc2 (grow h0.out HA.out) (by show w.heap.size ≤ w.heap.size + 1 + 1; omega)⟩

/-- nats.Mul -/
theorem mul_any (x y : Nat) (w : World) (hx : wl x ≤ 549755813888) (hy : wl y ≤ 549755813888) :
    Calls Tryz.prog 49 #[(Value.agg #[.int .u64 (lo (x)), .string (bg (x))]), (Value.agg #[.int .u64 (lo (y)), .string (bg (y))])] w fun e w' => e = .returned (Value.agg #[.int .u64 (lo (x * y)), .string (bg (x * y))]) ∧ Below w.heap.size w w' := by
  by_cases h : x < 18446744073709551616 ∧ y < 18446744073709551616
  · exact mul_small x y w h.1 h.2
  · exact mul_slow x y w hx hy h
end Go.Proofs.YtenpbnmmadbkdaaGreat


/- nats.short, nats.shifted, nats.half, nats.less: the parts of the long division. -/
namespace Go.Proofs.YtenpbnmmadbkdaaGreat
open Go.RowKit

theorem short_digit (n y i : Nat) (hy : 0 < y) : ((n / bp (i + 1)) % y * 4294967296 + dg n i) / y = dg (n / y) i ∧ ((n / bp (i + 1)) % y * 4294967296 + dg n i) % y = (n / bp i) % y := by
  have h1 : n / bp i = n / bp (i + 1) * 4294967296 + dg n i := by
    rw [dg, bp_succ, Nat.mul_comm 4294967296, ← Nat.div_div_eq_div_mul]
    omega
  have h2 : n / y / bp i = n / bp i / y := by rw [Nat.div_div_eq_div_mul, Nat.div_div_eq_div_mul, Nat.mul_comm]
  obtain ⟨a, ha⟩ : ∃ a, n / bp (i + 1) = a := ⟨_, rfl⟩
  obtain ⟨d, hd⟩ : ∃ d, dg n i = d := ⟨_, rfl⟩
  have hdl : d < 4294967296 := by rw [← hd]; exact dg_lt _ _
  rw [ha, hd] at h1
  have h3 : a * 4294967296 + d = y * (a / y * 4294967296) + (a % y * 4294967296 + d) := by
    have := Nat.div_add_mod a y
    have e : a * 4294967296 = (y * (a / y) + a % y) * 4294967296 := by rw [this]
    rw [e]; grind
  have h4 : (a % y * 4294967296 + d) / y < 4294967296 := by
    refine Nat.div_lt_of_lt_mul ?_
    have : (a % y + 1) * 4294967296 ≤ y * 4294967296 := Nat.mul_le_mul_right _ (Nat.mod_lt _ hy)
    omega
  rw [ha, hd, dg, h2, h1, h3]
  constructor
  · rw [Nat.mul_add_div hy]
    generalize (a % y * 4294967296 + d) / y = r at *
    omega
  · rw [Nat.mul_add_mod]

theorem half_digit (u i : Nat) : dg (u / 2) i = dg u i / 2 + dg u (i + 1) % 2 * 2147483648 := by
  have h1 : u / 2 / bp i = u / bp i / 2 := by rw [Nat.div_div_eq_div_mul, Nat.div_div_eq_div_mul, Nat.mul_comm]
  have h2 : u / bp (i + 1) = u / bp i / 4294967296 := by rw [bp_succ, Nat.mul_comm, Nat.div_div_eq_div_mul]
  unfold dg
  rw [h1, h2]
  omega

theorem shift_step {A X c P d M : Nat} (h : A + c * P = X * M) : A + (d * M % 4294967296 + c) * P + d * M / 4294967296 * (4294967296 * P) = (X + d * P) * M := by
  have h1 : d * M % 4294967296 * P + d * M / 4294967296 * (4294967296 * P) = d * M * P := by
    rw [← Nat.mul_assoc, ← Nat.add_mul]
    congr 1
    omega
  have h2 : (X + d * P) * M = X * M + d * M * P := by grind
  rw [Nat.add_mul]
  omega

theorem shift_small {d n c : Nat} (hn : n < 32) (hc : c < 2 ^ n) : d * 2 ^ n % 4294967296 + c < 4294967296 ∧ (d * 2 ^ n % 4294967296) ||| c = d * 2 ^ n % 4294967296 + c := by
  have e : (4294967296 : Nat) = 2 ^ (32 - n) * 2 ^ n := by rw [← Nat.pow_add, show 32 - n + n = 32 by omega]
  have h : d * 2 ^ n % 4294967296 = 2 ^ n * (d % 2 ^ (32 - n)) := by
    rw [e, Nat.mul_mod_mul_right, Nat.mul_comm]
  have hl : d % 2 ^ (32 - n) < 2 ^ (32 - n) := Nat.mod_lt _ (Nat.pow_pos (by decide))
  rw [h]
  constructor
  · rw [e]
    have : (d % 2 ^ (32 - n) + 1) * 2 ^ n ≤ 2 ^ (32 - n) * 2 ^ n := Nat.mul_le_mul_right _ hl
    have h2 : (d % 2 ^ (32 - n) + 1) * 2 ^ n = 2 ^ n * (d % 2 ^ (32 - n)) + 2 ^ n := by grind
    omega
  · exact (Nat.two_pow_add_eq_or_of_lt hc _).symm
theorem shift_carry {d n : Nat} (hd : d < 4294967296) : d * 2 ^ n / 4294967296 < 2 ^ n := by
  refine Nat.div_lt_of_lt_mul ?_
  exact Nat.mul_lt_mul_of_pos_right hd (Nat.pow_pos (by decide))

/-- short division by one word: the quotient's words in a new row, the remainder -/
def ShortPost (n k y : Nat) (w : World) (e : Ending) (w' : World) : Prop :=
  ∃ g : Nat, e = .returned (.tuple #[.slice (some ⟨g, 0, none⟩) k k, .int .u32 ((n % y : Nat) : Int)]) ∧ w.heap.size ≤ g ∧ Ws w' g k (dg (n / y)) ∧ Below w.heap.size w w'

set_option maxRecDepth 100000 in
theorem short_any (n y b c k : Nat) (w : World) (hk : k ≤ 1099511627776) (hcell : ∀ i, i < k → w.cell? ⟨b, i, none⟩ = some (.int .u32 ((dg n i : Nat) : Int))) (hb : b < w.heap.size)
    (hn : n < bp k) (hy : 0 < y) (hy2 : y < 4294967296) :
    Calls Tryz.prog 101 #[.slice (some ⟨b, 0, none⟩) k c, .int .u32 y] w (ShortPost n k y w) := by
  have HC := Lib.hid hcell
  clear hcell
  have hmk := make_ws (k : Int) k rfl (by omega)
  have HW0 : Hid (Ws (w.alloc (.cells (madeCells #[.int .u32 0] k) 22)) w.heap.size k fun _ => 0) := Ws.made w k
  have HB0 : Hid (Below w.heap.size w (w.alloc (.cells (madeCells #[.int .u32 0] k) 22))) := (Below.refl _ _).alloc (Nat.le_refl _) _
  have hr0 : Hid (n / bp k % y = 0) := by
    show n / bp k % y = 0
    rw [Nat.div_eq_of_lt hn, Nat.zero_mod]
  have HN := Lib.hid hn
  clear hn
  go_enter Tryz.func101, Tryz.ntmps101
  go_wp2_with fail
  have HMK := Lib.hid hmk
  clear hmk
  go_loopw [5, 6] (fun r i wr => ∃ j : Nat, j ≤ k ∧ i = .int .i64 ((j : Int) - 1) ∧ r = .int .u32 ((n / bp j % y : Nat) : Int) ∧ Ws wr w.heap.size k (fun t => if j ≤ t then dg (n / y) t else 0) ∧ Below w.heap.size w wr) (fun _ i _ => (intOf i + 1).toNat)
  case atStart =>
    refine ⟨k, Nat.le_refl _, rfl, by rw [hr0.out]; rfl, HW0.out.congr fun i hi => ?_, HB0.out⟩
    rw [if_neg (by omega)]
  case round =>
    obtain ⟨j, hj, rfl, rfl, hws, hbel⟩ := hrel
    clear HW0 HB0
    rcases j with _ | j
    · have H1 := Lib.hid (hws.congr (g := dg (n / y)) fun i _ => by rw [if_pos (Nat.zero_le _)])
      have H2 := Lib.hid hbel
      clear hws hbel
      rw [show (((0 : Nat) : Int) - 1) = -1 from rfl, show n / bp 0 % y = n % y from by rw [bp_zero, Nat.div_one]]
      go_wp2
      go_ret2
      exact ⟨w.heap.size, rfl, Nat.le_refl _, H1.out, H2.out⟩
    · rw [show (((j + 1 : Nat) : Int) - 1) = (j : Int) from by omega]
      obtain ⟨d1, d2⟩ := short_digit n y j hy
      have hcell : wr.cell? ⟨b, j, none⟩ = some (.int .u32 ((dg n j : Nat) : Int)) := by
        rw [hbel.cell (p := ⟨b, j, none⟩) hb]
        exact HC.out j (by omega)
      have hrl : n / bp (j + 1) % y < y := Nat.mod_lt _ hy
      obtain ⟨r, HR⟩ : ∃ r, Hid (n / bp (j + 1) % y = r) := ⟨_, Lib.hid rfl⟩
      rw [HR.out] at d1 d2 hrl
      rw [HR.out]
      have hdl := dg_lt n j
      have hc2 := hws.cell (show j < k by omega)
      have hfr := hws.frozen j
      have H1 := Lib.hid hws
      have H2 := Lib.hid hbel
      have D1 := Lib.hid d1
      have D2 := Lib.hid d2
      clear hws hbel d1 d2
      go_wp2_with (go_at_call 111; refine (div32_any _ _ _ _ (by omega) (by omega) (by omega)).mono ?_; rintro e w' ⟨rfl, q, rfl⟩)
      go_roundw
      case rel =>
        have e1 : ((r : Int) * 4294967296 + (dg n j : Int)) / (y : Int) = ((dg (n / y) j : Nat) : Int) := by rw [← D1.out]; simp
        have e2 : ((r : Int) * 4294967296 + (dg n j : Int)) % (y : Int) = ((n / bp j % y : Nat) : Int) := by rw [← D2.out]; simp
        rw [e1, e2]
        refine ⟨j, by omega, rfl, rfl, ?_, (below_drewN H2.out _).setCell (Nat.le_refl _) _⟩
        refine ((H1.out.drewN q).set j _).congr fun t ht => ?_
        by_cases e : t = j
        · simp [e]
        · have e2 : (j + 1 ≤ t) ↔ (j ≤ t) := by omega
          simp [e, e2]
      case measure => simp [intOf]

theorem int_shl (d s : Nat) : (d : Int) * 2 ^ s = ((d * 2 ^ s : Nat) : Int) := by simp
theorem sh_or {d s c : Nat} (hs : s < 32) (hc : c < 2 ^ s) : bits .or .u32 ((d : Int) * 2 ^ s % 4294967296) (c : Int) = ((d * 2 ^ s % 4294967296 + c : Nat) : Int) := by
  have hp : (2 : Nat) ^ s ≤ 2 ^ 31 := Nat.pow_le_pow_right (by decide) (by omega)
  obtain ⟨_, h2⟩ := shift_small (d := d) hs hc
  have e : (d : Int) * 2 ^ s % 4294967296 = ((d * 2 ^ s % 4294967296 : Nat) : Int) := by rw [int_shl]; omega
  rw [e, u32_or_nat _ _ (Nat.mod_lt _ (by decide)) (by omega), h2]
theorem sh_carry {d s : Nat} (hs : s < 32) (hd : d < 4294967296) : IntKind.u64.wrap ((d : Int) * 2 ^ s) / 4294967296 % 4294967296 = ((d * 2 ^ s / 4294967296 : Nat) : Int) := by
  have hp : (2 : Nat) ^ s ≤ 2 ^ 31 := Nat.pow_le_pow_right (by decide) (by omega)
  have h1 : d * 2 ^ s ≤ 4294967295 * 2 ^ 31 := Nat.mul_le_mul (by omega) hp
  rw [IntKind.wrap_u64, int_shl]
  generalize d * 2 ^ s = z at *
  omega

/-- a row times 2^s, s below 32, one word longer -/
def ShiftedPost (n k s : Nat) (w : World) (e : Ending) (w' : World) : Prop :=
  ∃ g : Nat, e = .returned (.slice (some ⟨g, 0, none⟩) (k + 1) (k + 1)) ∧ w.heap.size ≤ g ∧ Ws w' g (k + 1) (dg (n * 2 ^ s)) ∧ Below w.heap.size w w'

def ShiftRow (n k s i c g : Nat) (wr : World) : Prop :=
  ∃ F : Nat → Nat, Ws wr g (k + 1) F ∧ (∀ t, t < k + 1 → F t < 4294967296) ∧ c < 2 ^ s ∧ vl F i + c * bp i = vl (dg n) i * 2 ^ s

theorem ShiftRow.step {n k s i c g : Nat} {wr : World} (h : ShiftRow n k s i c g wr) (hs : s < 32) :
    ShiftRow n k s (i + 1) (dg n i * 2 ^ s / 4294967296) g (wr.setCell ⟨g, i, none⟩ (.int .u32 ((dg n i * 2 ^ s % 4294967296 + c : Nat) : Int))) := by
  obtain ⟨F, h1, h2, h3, h4⟩ := h
  refine ⟨_, h1.set i _, fun t ht => ?_, shift_carry (dg_lt _ _), ?_⟩
  · by_cases e : t = i
    · simp only [e, if_true]; exact (shift_small hs h3).1
    · simp only [e, if_false]; exact h2 t ht
  · rw [vl_succ, vl_succ, bp_succ, if_pos rfl, vl_congr (g := F) (fun t ht => by simp [show ¬ t = i by omega])]
    exact shift_step h4

theorem ShiftRow.done {n k s c g : Nat} {wr : World} (h : ShiftRow n k s k c g wr) (hs : s < 32) (hn : n < bp k) :
    Ws (wr.setCell ⟨g, k, none⟩ (.int .u32 ((c : Nat) : Int))) g (k + 1) (dg (n * 2 ^ s)) := by
  obtain ⟨F, h1, h2, h3, h4⟩ := h
  have hp : (2 : Nat) ^ s ≤ 2 ^ 31 := Nat.pow_le_pow_right (by decide) (by omega)
  have hc : c < 4294967296 := by omega
  have hF : ∀ t, t < k + 1 → (if t = k then c else F t) < 4294967296 := fun t ht => by
    split
    · exact hc
    · exact h2 t ht
  have hv : vl (fun t => if t = k then c else F t) (k + 1) = n * 2 ^ s := by
    rw [vl_succ, if_pos rfl, vl_congr (g := F) (fun i hi => by simp [show ¬ i = k by omega]), h4, vl_dg_of_lt hn]
  refine (h1.set k c).congr fun i hi => ?_
  rw [← hv]
  exact (dg_vl (f := fun t => if t = k then c else F t) hF hi).symm

set_option maxRecDepth 100000 in
theorem shifted_any (n b c k s : Nat) (w : World) (hk : k ≤ 1099511627776) (hcell : ∀ i, i < k → w.cell? ⟨b, i, none⟩ = some (.int .u32 ((dg n i : Nat) : Int))) (hb : b < w.heap.size)
    (hn : n < bp k) (hs : s < 32) :
    Calls Tryz.prog 113 #[.slice (some ⟨b, 0, none⟩) k c, .int .i64 s] w (ShiftedPost n k s w) := by
  have HC := Lib.hid hcell
  clear hcell
  have hmk := make_ws ((k : Int) + 1) (k + 1) (by omega) (by omega)
  have HW0 : Hid (ShiftRow n k s 0 0 w.heap.size (w.alloc (.cells (madeCells #[.int .u32 0] (k + 1)) 22))) := ⟨_, Ws.made w (k + 1), fun _ _ => (by decide : 0 < 4294967296), Nat.pow_pos (by decide), by simp [vl]⟩
  have HB0 : Hid (Below w.heap.size w (w.alloc (.cells (madeCells #[.int .u32 0] (k + 1)) 22))) := (Below.refl _ _).alloc (Nat.le_refl _) _
  have HN := Lib.hid hn
  have hs1 : (s : Int) ≤ 31 := by omega
  have hs0 : (0 : Int) ≤ (s : Int) := by omega
  clear hn
  go_enter Tryz.func113, Tryz.ntmps113
  go_wp2_with fail
  have HMK := Lib.hid hmk
  clear hmk
  go_loopw [6, 15] (fun c i wr => ∃ i' c' : Nat, i' ≤ k ∧ i = .int .i64 i' ∧ c = .int .u32 c' ∧ ShiftRow n k s i' c' w.heap.size wr ∧ Below w.heap.size w wr) (fun _ i _ => k - (intOf i).toNat)
  case atStart => exact ⟨0, 0, by omega, rfl, rfl, HW0.out, HB0.out⟩
  case round =>
    obtain ⟨i, c', hi, rfl, rfl, hrow, hbel⟩ := hrel
    clear HW0 HB0
    by_cases hik : i < k
    · have hcell : wr.cell? ⟨b, i, none⟩ = some (.int .u32 ((dg n i : Nat) : Int)) := by
        rw [hbel.cell (p := ⟨b, i, none⟩) hb]
        exact HC.out i hik
      have HST := Lib.hid (hrow.step hs)
      have H2 := Lib.hid hbel
      obtain ⟨F, hF, _, hc, _⟩ := hrow
      have hc2 := hF.cell (show i < k + 1 by omega)
      have hfr := hF.frozen i
      have hdl := dg_lt n i
      have HCC := Lib.hid hc
      clear hbel hF hc
      go_wp2_with fail
      go_roundw
      case rel =>
        rw [sh_or hs HCC.out, sh_carry hs hdl]
        exact ⟨i + 1, _, by omega, by go_num, rfl, HST.out, H2.out.setCell (Nat.le_refl _) _⟩
      case measure => simp [intOf]; omega
    · obtain rfl : i = k := by omega
      have HST := Lib.hid (hrow.done hs HN.out)
      have H2 := Lib.hid hbel
      obtain ⟨F, hF, _, _, _⟩ := hrow
      have hc2 := hF.cell (show i < i + 1 by omega)
      have hfr := hF.frozen i
      clear hbel hF
      go_wp2
      go_ret
      exact ⟨w.heap.size, rfl, Nat.le_refl _, HST.out, H2.out.setCell (Nat.le_refl _) _⟩
/-! ### only one block has turned -/
theorem only_refl (w : World) (row : Option Nat) : w.grownBy w row := World.grownBy.refl w row
theorem only_drewN {a w : World} {row : Option Nat} (h : a.grownBy w row) (n : Nat) : a.grownBy (w.drewN n) row := ⟨h.os, h.tape, h.output, h.size, h.block⟩
theorem only_drew {a w : World} {row : Option Nat} (h : a.grownBy w row) : a.grownBy w.drew row := ⟨h.os, h.tape, h.output, h.size, h.block⟩
theorem only_setCell {a w : World} {g : Nat} (h : a.grownBy w (some g)) (i : Nat) (u : Value) : a.grownBy (w.setCell ⟨g, i, none⟩ u) (some g) :=
  ⟨h.os, h.tape, h.output, by simpa [World.setCell] using h.size, fun k hk hne => (Below.heap_setCell _ _ _ _ (by
    intro e
    exact hne (by rw [e]))).trans (h.block k hk hne)⟩
theorem only_trans {a b c : World} {row : Option Nat} (h : a.grownBy b row) (k : b.grownBy c row) : a.grownBy c row :=
  ⟨k.os.trans h.os, k.tape.trans h.tape, k.output.trans h.output, Nat.le_trans h.size k.size, fun i hi hne => (k.block i (Nat.lt_of_lt_of_le hi h.size) hne).trans (h.block i hi hne)⟩
theorem Ws.only {w w' : World} {b n g : Nat} {f : Nat → Nat} (h : Ws w b n f) (hg : w.grownBy w' (some g)) (hne : b ≠ g) : Ws w' b n f :=
  World.rowIs.of_block h (hg.block b h.lt (fun e => hne (by injection e)))

theorem half_or {a b : Nat} (ha : a < 4294967296) : bits .or .u32 ((a : Int) / 2) ((b : Int) * 2147483648 % 4294967296) = ((a / 2 + b % 2 * 2147483648 : Nat) : Int) := by
  have e1 : (a : Int) / 2 = ((a / 2 : Nat) : Int) := by omega
  have e2 : (b : Int) * 2147483648 % 4294967296 = ((b % 2 * 2147483648 : Nat) : Int) := by omega
  rw [e1, e2, u32_or_nat _ _ (by omega) (by omega)]
  congr 1
  have := Nat.two_pow_add_eq_or_of_lt (i := 31) (b := a / 2) (by omega) (b % 2)
  rw [Nat.or_comm, Nat.mul_comm, ← this]
  omega

/-- a row halved in place -/
def HalfPost (n b k : Nat) (w : World) (e : Ending) (w' : World) : Prop := e = .returned (.tuple #[]) ∧ Ws w' b k (dg (n / 2)) ∧ w.grownBy w' (some b)

set_option maxRecDepth 100000 in
theorem half_any (n b c k : Nat) (w : World) (hk : k ≤ 1099511627776) (hws : Ws w b k (dg n)) (hn : n < bp k) :
    Calls Tryz.prog 115 #[.slice (some ⟨b, 0, none⟩) k c] w (HalfPost n b k w) := by
  have HW := Lib.hid hws
  have HN := Lib.hid hn
  clear hws hn
  go_enter Tryz.func115, Tryz.ntmps115
  go_wp2_with fail
  go_loopw [5] (fun i wr => ∃ i' : Nat, i' ≤ k ∧ i = .int .i64 i' ∧ Ws wr b k (fun t => if t < i' then dg (n / 2) t else dg n t) ∧ w.grownBy wr (some b)) (fun i _ => k - (intOf i).toNat)
  case atStart => exact ⟨0, by omega, rfl, HW.out, only_refl _ _⟩
  case round =>
    obtain ⟨i, hi, rfl, hws, hon⟩ := hrel
    by_cases hik : i < k
    · have hcell := hws.cell hik
      simp only [Nat.lt_irrefl, if_false] at hcell
      have hfr := hws.frozen i
      have ha := dg_lt n i
      have HH := Lib.hid (half_digit n i)
      have H1 := Lib.hid hws
      have H2 := Lib.hid hon
      by_cases hl : i + 1 < k
      · have hcell2 := hws.cell hl
        simp only [show ¬ i + 1 < i by omega, if_false] at hcell2
        have hb := dg_lt n (i + 1)
        have hor := half_or (b := dg n (i + 1)) ha
        rw [← half_digit] at hor
        have HOR := Lib.hid hor
        have hl0 : (0 : Int) ≤ (i : Int) + 1 := by omega
        have hl1 : (i : Int) + 1 < (k : Int) := by omega
        clear hws hon hor
        go_wp2_with fail
        go_region
        all_goals
          go_wp2
          go_roundw
          case rel =>
            rw [HOR.out, show ((dg n i : Nat) : Int) / 2 = ((dg n i / 2 : Nat) : Int) from by omega]
            refine ⟨i + 1, by omega, by go_num, ?_, only_drew (only_setCell (only_setCell H2.out i _) i _)⟩
            refine (((H1.out.set i _).set i _).drew).congr fun t ht => ?_
            by_cases e : t = i
            · simp [e]
            · have e2 : (t < i) ↔ (t < i + 1) := by omega
              simp [e, e2]
          case measure => simp [intOf]; omega
      · clear hws hon
        go_wp2_with fail
        go_roundw
        case rel =>
          have hz : dg n (i + 1) = 0 := dg_high HN.out (by omega)
          have hh := HH.out
          rw [hz] at hh
          rw [show ((dg n i : Nat) : Int) / 2 = ((dg (n / 2) i : Nat) : Int) from by omega]
          refine ⟨i + 1, by omega, by go_num, ?_, only_setCell H2.out i _⟩
          refine (H1.out.set i _).congr fun t ht => ?_
          by_cases e : t = i
          · simp [e]
          · have e2 : (t < i) ↔ (t < i + 1) := by omega
            simp [e, e2]
        case measure => simp [intOf]; omega
    · obtain rfl : i = k := by omega
      have H1 := Lib.hid (hws.congr (g := dg (n / 2)) fun t ht => by rw [if_pos ht])
      have H2 := Lib.hid hon
      clear hws hon
      go_wp2
      go_end0
      exact ⟨rfl, H1.out, H2.out⟩
/-- digit times v is taken from the words of u from place o on -/
def LessPost (F : Nat → Nat) (o m N b V D : Nat) (w : World) (e : Ending) (w' : World) : Prop :=
  ∃ (G : Nat → Nat) (ln : Nat), e = .returned (.bool (decide (0 < ln))) ∧ ln ≤ 1 ∧ Ws w' b N G ∧ (∀ t, t < N → G t < 4294967296) ∧ (∀ t, t < o ∨ o + m < t → G t = F t) ∧
    vl (fun t => G (o + t)) (m + 1) + D * V = vl (fun t => F (o + t)) (m + 1) + ln * bp (m + 1) ∧ w.grownBy w' (some b)

theorem less_step {A X Y c l P u d D : Nat} {t s l' : Nat} (ht : t = c + D * d) (hs : s + t % 4294967296 + l = u + 4294967296 * l') (h : A + D * Y = X + (l + c) * P) :
    A + s * P + D * (Y + d * P) = X + u * P + (l' + t / 4294967296) * (4294967296 * P) := by
  have h1 : (s + t % 4294967296 + l) * P = (u + 4294967296 * l') * P := by rw [hs]
  have h2 : t * P = t % 4294967296 * P + t / 4294967296 * (4294967296 * P) := by
    rw [← Nat.mul_assoc, ← Nat.add_mul]
    congr 1
    omega
  have h3 : t * P = c * P + D * (d * P) := by rw [ht]; grind
  have h4 : D * (Y + d * P) = D * Y + D * (d * P) := by grind
  have h5 : (s + t % 4294967296 + l) * P = s * P + t % 4294967296 * P + l * P := by grind
  have h6 : (u + 4294967296 * l') * P = u * P + l' * (4294967296 * P) := by grind
  have h7 : (l + c) * P = l * P + c * P := by grind
  have h8 : (l' + t / 4294967296) * (4294967296 * P) = l' * (4294967296 * P) + t / 4294967296 * (4294967296 * P) := by grind
  omega

def LessRow (F : Nat → Nat) (o m N b v D i c l : Nat) (wr : World) (G : Nat → Nat) : Prop :=
  Ws wr b N G ∧ (∀ t, t < N → G t < 4294967296) ∧ (∀ t, t < o ∨ o + i ≤ t → G t = F t) ∧ l ≤ 1 ∧ c < 4294967296 ∧ o + m < N ∧
    vl (fun t => G (o + t)) i + D * vl (dg v) i = vl (fun t => F (o + t)) i + (l + c) * bp i

theorem LessRow.step {F : Nat → Nat} {o m N b v D i c l : Nat} {wr : World} {G : Nat → Nat} (h : LessRow F o m N b v D i c l wr G) (hi : i < m) (hD : D < 4294967296) :
    LessRow F o m N b v D (i + 1) ((c + D * dg v i) / 4294967296) (bor (F (o + i)) ((c + D * dg v i) % 4294967296) l)
      (wr.setCell ⟨b, o + i, none⟩ (.int .u32 ((sb (F (o + i)) ((c + D * dg v i) % 4294967296) l : Nat) : Int)))
      (fun t => if t = o + i then sb (F (o + i)) ((c + D * dg v i) % 4294967296) l else G t) := by
  obtain ⟨h1, h2, h3, h4, h5, h6, h7⟩ := h
  have hG : G (o + i) = F (o + i) := h3 _ (.inr (Nat.le_refl _))
  have hF : F (o + i) < 4294967296 := by rw [← hG]; exact h2 _ (by omega)
  have hd := dg_lt v i
  have hp : D * dg v i ≤ 4294967295 * 4294967295 := Nat.mul_le_mul (by omega) (by omega)
  refine ⟨h1.set _ _, fun t ht => ?_, fun t ht => ?_, bor_le _ _ _, by omega, h6, ?_⟩
  · dsimp only
    split
    · exact sb_lt _ _ _
    · exact h2 t ht
  · dsimp only
    rw [if_neg (by omega)]; exact h3 t (by omega)
  · have e : vl (fun t => (fun t => if t = o + i then sb (F (o + i)) ((c + D * dg v i) % 4294967296) l else G t) (o + t)) i = vl (fun t => G (o + t)) i :=
      vl_congr fun t ht => by simp only [show ¬ o + t = o + i by omega, if_false]
    rw [vl_succ, vl_succ, vl_succ, bp_succ, e]
    simp only [if_true]
    exact less_step rfl (sb_bor hF (Nat.mod_lt _ (by decide)) h4) h7

theorem LessRow.last {F : Nat → Nat} {o m N b v D c l : Nat} {wr : World} {G : Nat → Nat} (h : LessRow F o m N b v D m c l wr G) (hv : v < bp m) :
    Ws (wr.setCell ⟨b, o + m, none⟩ (.int .u32 ((sb (F (o + m)) c l : Nat) : Int))) b N (fun t => if t = o + m then sb (F (o + m)) c l else G t) ∧
    (∀ t, t < N → (if t = o + m then sb (F (o + m)) c l else G t) < 4294967296) ∧ (∀ t, t < o ∨ o + m < t → (if t = o + m then sb (F (o + m)) c l else G t) = F t) ∧
    vl (fun t => if o + t = o + m then sb (F (o + m)) c l else G (o + t)) (m + 1) + D * v = vl (fun t => F (o + t)) (m + 1) + bor (F (o + m)) c l * bp (m + 1) := by
  obtain ⟨h1, h2, h3, h4, h5, h6, h7⟩ := h
  have hG : G (o + m) = F (o + m) := h3 _ (.inr (Nat.le_refl _))
  have hF : F (o + m) < 4294967296 := by rw [← hG]; exact h2 _ (by omega)
  refine ⟨h1.set _ _, fun t ht => ?_, fun t ht => ?_, ?_⟩
  · split
    · exact sb_lt _ _ _
    · exact h2 t ht
  · rw [if_neg (by omega)]; exact h3 t (by omega)
  · have e : vl (fun t => if o + t = o + m then sb (F (o + m)) c l else G (o + t)) m = vl (fun t => G (o + t)) m :=
      vl_congr fun t ht => by simp only [show ¬ o + t = o + m by omega, if_false]
    rw [vl_succ, vl_succ, bp_succ, e]
    simp only [if_true]
    rw [vl_dg_of_lt hv] at h7
    have h8 := less_step (d := 0) (t := c) (D := D) (u := F (o + m)) (s := sb (F (o + m)) c l) (l' := bor (F (o + m)) c l) (by simp) (by rw [Nat.mod_eq_of_lt h5]; exact sb_bor hF h5 h4) h7
    rw [Nat.zero_mul, Nat.add_zero, Nat.div_eq_of_lt h5, Nat.add_zero] at h8
    exact h8

set_option maxRecDepth 100000 in
theorem less_any (F : Nat → Nat) (o m N b bv cu cv v D : Nat) (w : World) (hm : m ≤ 1099511627776) (hN : N ≤ 1099511627776) (ho : o + m < N) (hu : Ws w b N F) (hF : ∀ t, t < N → F t < 4294967296)
    (hv : ∀ i, i < m → w.cell? ⟨bv, i, none⟩ = some (.int .u32 ((dg v i : Nat) : Int))) (hbv : bv < w.heap.size) (hne : bv ≠ b) (hvm : v < bp m) (hD : D < 4294967296) :
    Calls Tryz.prog 114 #[.slice (some ⟨b, o, none⟩) (m + 1) cu, .slice (some ⟨bv, 0, none⟩) m cv, .int .u64 D] w (LessPost F o m N b v D w) := by
  have HV := Lib.hid hv
  have HU : Hid (LessRow F o m N b v D 0 0 0 w F) := ⟨hu, hF, fun _ _ => rfl, by omega, by omega, ho, rfl⟩
  have HF := Lib.hid hF
  have HVM := Lib.hid hvm
  clear hv hu hF hvm
  go_enter Tryz.func114, Tryz.ntmps114
  go_wp2_with fail
  go_loopw [7, 8, 14] (fun c l i wr => ∃ (i' c' l' : Nat) (G : Nat → Nat), i' ≤ m ∧ i = .int .i64 i' ∧ c = .int .u64 c' ∧ l = .int .u32 l' ∧ LessRow F o m N b v D i' c' l' wr G ∧ w.grownBy wr (some b)) (fun _ _ i _ => m - (intOf i).toNat)
  case atStart => exact ⟨0, 0, 0, F, by omega, rfl, rfl, rfl, HU.out, only_refl _ _⟩
  case round =>
    obtain ⟨i, c, l, G, hi, rfl, rfl, rfl, hrow, hon⟩ := hrel
    have hc := hrow.2.2.2.2.1
    have hl := hrow.2.2.2.1
    by_cases him : i < m
    · have hcv : w.grownBy wr (some b) → wr.cell? ⟨bv, i, none⟩ = some (.int .u32 ((dg v i : Nat) : Int)) := fun h => by
        rw [World.cell?_of_block (w := w) (h.block bv hbv (fun e => hne (by injection e)))]
        exact HV.out i him
      have hcell2 := hcv hon
      have hcell := hrow.1.cell (show o + i < N by omega)
      rw [hrow.2.2.1 _ (.inr (Nat.le_refl _))] at hcell
      have hfr := hrow.1.frozen (o + i)
      have HST := Lib.hid (hrow.step him hD)
      have hd := dg_lt v i
      have hFi := HF.out (o + i) (by omega)
      obtain ⟨P, hP, HP⟩ : ∃ P : Nat, ((D : Nat) : Int) * ((dg v i : Nat) : Int) = (P : Int) ∧ Hid (D * dg v i = P) := ⟨D * dg v i, (Int.natCast_mul _ _).symm, Lib.hid rfl⟩
      have hPb : P ≤ 18446744065119617025 := by
        rw [← HP.out]
        exact Nat.mul_le_mul (show D ≤ 4294967295 by omega) (show dg v i ≤ 4294967295 by omega)
      rw [HP.out] at HST
      have hm1 : ((c : Int) + (P : Int)) % 4294967296 = (((c + P) % 4294967296 : Nat) : Int) := by omega
      have hm2 : ((c : Int) + (P : Int)) / 4294967296 = (((c + P) / 4294967296 : Nat) : Int) := by omega
      obtain ⟨q, hq⟩ : ∃ q, (c + P) % 4294967296 = q := ⟨_, rfl⟩
      have hql : q < 4294967296 := by omega
      rw [hq] at hm1 HST
      have HM1 := Lib.hid hm1
      have HM2 := Lib.hid hm2
      have HON := Lib.hid hon
      have hm3 := hm1
      clear hrow hon hcv hq hm1 hm2
      go_wp2_with (go_at_call 103; refine (sub32_any _ _ _ _ (by omega) (by omega) (by omega)).mono ?_; rintro e w' ⟨rfl, rfl⟩)
      go_roundw
      case rel =>
        rw [HM2.out]
        exact ⟨i + 1, _, _, _, by omega, by go_num, rfl, rfl, HST.out, only_setCell HON.out _ _⟩
      case measure => simp [intOf]; omega
    · obtain rfl : i = m := by omega
      have hcell := hrow.1.cell (show o + i < N by omega)
      rw [hrow.2.2.1 _ (.inr (Nat.le_refl _))] at hcell
      have hfr := hrow.1.frozen (o + i)
      have HST := Lib.hid (hrow.last HVM.out)
      have hFi := HF.out (o + i) (by omega)
      have HON := Lib.hid hon
      clear hrow hon
      go_wp2_with (go_at_call 103; refine (sub32_any _ _ _ _ (by omega) (by omega) (by omega)).mono ?_; rintro e w' ⟨rfl, rfl⟩)
      go_ret
      obtain ⟨s1, s2, s3, s4⟩ := HST.out
      exact ⟨_, bor (F (o + i)) c l, rfl, bor_le _ _ _, s1, s2, s3, s4, only_setCell HON.out _ _⟩
end Go.Proofs.YtenpbnmmadbkdaaGreat


/- The arithmetic of the long division (Knuth's algorithm D): the window, the digit's estimate, the rows behind a step. No condition; nothing here runs the program. -/
namespace Go.Proofs.YtenpbnmmadbkdaaGreat
open Go.RowKit

theorem dg_shift (r k t : Nat) : dg r (k + t) = dg (r / bp k) t := by
  unfold dg; rw [bp_add, Nat.div_div_eq_div_mul]

/-- the window of the division's step: the number above the first k words -/
theorem window {r v k n : Nat} (hr : r < v * bp (k + 1)) (hv : v < bp n) : r / bp k < v * 4294967296 ∧ r / bp k < bp (n + 1) ∧ vl (fun t => dg r (k + t)) (n + 1) = r / bp k := by
  have h1 : r / bp k < v * 4294967296 := by
    refine Nat.div_lt_of_lt_mul ?_
    rw [bp_succ] at hr
    have : bp k * (v * 4294967296) = v * (4294967296 * bp k) := by grind
    omega
  have h2 : r / bp k < bp (n + 1) := by
    rw [bp_succ]
    omega
  refine ⟨h1, h2, ?_⟩
  rw [vl_congr (g := dg (r / bp k)) (fun t _ => dg_shift r k t)]
  exact vl_dg_of_lt h2

/-- the top three words of a number of p + 3 words -/
theorem top3 {w p : Nat} (h : w < bp (p + 3)) : w / bp p = (dg w (p + 2) * 4294967296 + dg w (p + 1)) * 4294967296 + dg w p := by
  have e1 : w / bp (p + 1) = w / bp p / 4294967296 := by rw [bp_succ, Nat.mul_comm, Nat.div_div_eq_div_mul]
  have e2 : w / bp (p + 2) = w / bp (p + 1) / 4294967296 := by rw [bp_succ (p + 1), Nat.mul_comm, Nat.div_div_eq_div_mul]
  have h3 : w / bp (p + 2) < 4294967296 := Nat.div_lt_of_lt_mul (by rw [Nat.mul_comm, ← bp_succ]; exact h)
  unfold dg
  generalize w / bp (p + 2) = c at *
  generalize w / bp (p + 1) = b at *
  generalize w / bp p = a at *
  omega
theorem top2 {v p : Nat} (h : v < bp (p + 2)) : v / bp p = dg v (p + 1) * 4294967296 + dg v p := by
  have e1 : v / bp (p + 1) = v / bp p / 4294967296 := by rw [bp_succ, Nat.mul_comm, Nat.div_div_eq_div_mul]
  have h3 : v / bp (p + 1) < 4294967296 := Nat.div_lt_of_lt_mul (by rw [Nat.mul_comm, ← bp_succ]; exact h)
  unfold dg
  generalize v / bp (p + 1) = b at *
  generalize v / bp p = a at *
  omega

/-- a digit that fails the test on the top words is too great -/
theorem guess_high {w v P d : Nat} (hP : 0 < P) (h : w / P < d * (v / P)) : w / v < d := by
  refine Nat.div_lt_of_lt_mul ?_
  have h1 : w < (w / P + 1) * P := by
    have := Nat.div_add_mod w P
    have := Nat.mod_lt w hP
    have e : (w / P + 1) * P = P * (w / P) + P := by grind
    omega
  have h2 : (w / P + 1) * P ≤ d * (v / P) * P := Nat.mul_le_mul_right _ h
  have h3 : v / P * P ≤ v := Nat.div_mul_le_self v P
  have h4 : d * (v / P) * P ≤ v * d := by
    rw [Nat.mul_assoc, Nat.mul_comm v d]
    exact Nat.mul_le_mul_left _ h3
  omega

/-- a digit that meets it is too great by one at most -/
theorem guess_low {w v P d : Nat} (hP : 0 < P) (hd : d ≤ 4294967295) (hv : 4294967296 * P ≤ v) (h : d * (v / P) ≤ w / P) : d ≤ w / v + 1 := by
  rcases Nat.lt_or_ge (w / v + 1) d with hlt | hge
  · exfalso
    have hv0 : 0 < v := by omega
    have h1 : w < v * (w / v + 1) := by
      have := Nat.div_add_mod w v
      have := Nat.mod_lt w hv0
      have e : v * (w / v + 1) = v * (w / v) + v := by grind
      omega
    have h2 : d * v ≤ w + d * (v % P) := by
      have h3 : d * (v / P) * P ≤ w / P * P := Nat.mul_le_mul_right _ h
      have h4 : w / P * P ≤ w := Nat.div_mul_le_self w P
      have h5 : v = v / P * P + v % P := by rw [Nat.mul_comm]; exact (Nat.div_add_mod v P).symm
      have h6 : d * v = d * (v / P) * P + d * (v % P) := by
        have : d * v = d * (v / P * P + v % P) := by rw [← h5]
        rw [this]; grind
      omega
    have h7 : d * (v % P) ≤ 4294967295 * P := Nat.mul_le_mul hd (Nat.le_of_lt (Nat.mod_lt _ hP))
    have h8 : (w / v + 2) * v ≤ d * v := Nat.mul_le_mul_right _ hlt
    have h9 : (w / v + 2) * v = v * (w / v + 1) + v := by grind
    omega
  · exact hge

/-- the row behind a step: the window is the window's rest -/
theorem next_row {r v k : Nat} : r % (v * bp k) = r / bp k % v * bp k + r % bp k := by
  rw [Nat.mul_comm v, Nat.mod_mul, Nat.mul_comm (bp k)]
  omega
theorem next_digit {u v k : Nat} : u % (v * bp (k + 1)) / bp k / v = dg (u / v) k := by
  unfold dg
  have e1 : v * bp (k + 1) = bp k * v * 4294967296 := by rw [bp_succ]; grind
  rw [Nat.div_div_eq_div_mul, e1, Nat.mod_mul_right_div_self, Nat.div_div_eq_div_mul, Nat.mul_comm v]
theorem next_rest {u v k : Nat} : u % (v * bp (k + 1)) % (v * bp k) = u % (v * bp k) := by
  refine Nat.mod_mod_of_dvd _ ?_
  rw [bp_succ]
  exact ⟨4294967296, by grind⟩

/-- a row whose window holds x, and is as r's outside it -/
theorem row_value {G : Nat → Nat} {r k n N : Nat} (hN : k + n + 1 ≤ N) (hG : ∀ t, t < N → G t < 4294967296) (hout : ∀ t, t < k ∨ k + n < t → G t = dg r t) (hr : r < bp (k + n + 1)) :
    ∀ t, t < N → G t = dg (vl (fun t => G (k + t)) (n + 1) * bp k + r % bp k) t := by
  have h1 : vl G N = vl (fun t => G (k + t)) (n + 1) * bp k + r % bp k := by
    have e : N = k + (N - k) := by omega
    rw [e, vl_split, vl_congr (g := dg r) (fun i hi => hout i (.inl hi)), vl_dg, Nat.mul_comm (bp k), Nat.add_comm]
    congr 2
    refine vl_tail (by omega) fun i h2 h3 => ?_
    rw [hout _ (.inr (by omega))]
    exact dg_high hr (by omega)
  intro t ht
  rw [← h1]
  exact (dg_vl hG ht).symm

/-- what the subtraction leaves: nothing lent: the digit is the quotient's -/
theorem less_zero {X d v w P : Nat} (hv : 0 < v) (h : X + d * v = w + 0 * P) (hd : w / v ≤ d) : d = w / v ∧ X = w % v := by
  have h1 := Nat.div_add_mod w v
  have h2 : d ≤ w / v := (Nat.le_div_iff_mul_le hv).2 (by omega)
  obtain rfl : d = w / v := by omega
  rw [Nat.mul_comm] at h1
  refine ⟨rfl, ?_⟩
  omega
/-- lent: the digit is one too great -/
theorem less_one {X d v w P : Nat} (h : X + d * v = w + 1 * P) (hX : X < P) (hd : d ≤ w / v + 1) : d = w / v + 1 ∧ X + v = P + w % v := by
  have h1 := Nat.div_add_mod w v
  have h2 : w / v < d := Nat.div_lt_of_lt_mul (by rw [Nat.mul_comm]; omega)
  obtain rfl : d = w / v + 1 := by omega
  refine ⟨rfl, ?_⟩
  rw [Nat.add_mul, Nat.mul_comm (w / v)] at h
  omega

/-- the row while v is added back -/
def BackRow (G : Nat → Nat) (k v i c N b : Nat) (wr : World) (A : Nat → Nat) : Prop :=
  Ws wr b N A ∧ (∀ t, t < N → A t < 4294967296) ∧ (∀ t, t < k ∨ k + i ≤ t → A t = G t) ∧ c ≤ 1 ∧ vl (fun t => A (k + t)) i + c * bp i = vl (fun t => G (k + t)) i + vl (dg v) i

theorem BackRow.step {G : Nat → Nat} {k v i c N b : Nat} {wr : World} {A : Nat → Nat} (h : BackRow G k v i c N b wr A) (hi : k + i < N) :
    BackRow G k v (i + 1) ((G (k + i) + dg v i + c) / 4294967296) N b (wr.setCell ⟨b, k + i, none⟩ (.int .u32 (((G (k + i) + dg v i + c) % 4294967296 : Nat) : Int)))
      (fun t => if t = k + i then (G (k + i) + dg v i + c) % 4294967296 else A t) := by
  obtain ⟨h1, h2, h3, h4, h5⟩ := h
  have hG : G (k + i) < 4294967296 := by rw [← h3 _ (.inr (Nat.le_refl _))]; exact h2 _ hi
  have hd := dg_lt v i
  refine ⟨h1.set _ _, fun t ht => ?_, fun t ht => ?_, by omega, ?_⟩
  · dsimp only
    split
    · exact Nat.mod_lt _ (by decide)
    · exact h2 t ht
  · dsimp only
    rw [if_neg (by omega)]; exact h3 t (by omega)
  · have e : vl (fun t => (fun t => if t = k + i then (G (k + i) + dg v i + c) % 4294967296 else A t) (k + t)) i = vl (fun t => A (k + t)) i :=
      vl_congr fun t ht => by simp only [show ¬ k + t = k + i by omega, if_false]
    rw [vl_succ, vl_succ, vl_succ, bp_succ, e]
    simp only [if_true]
    exact add_step h5

theorem BackRow.last {G : Nat → Nat} {k v n c N b y : Nat} {wr : World} {A : Nat → Nat} (h : BackRow G k v n c N b wr A) (hn : k + n < N) (hv : v < bp n)
    (hX : vl (fun t => G (k + t)) (n + 1) + v = bp (n + 1) + y) :
    Ws (wr.setCell ⟨b, k + n, none⟩ (.int .u32 (((G (k + n) + c) % 4294967296 : Nat) : Int))) b N (fun t => if t = k + n then (G (k + n) + c) % 4294967296 else A t) ∧
    (∀ t, t < N → (if t = k + n then (G (k + n) + c) % 4294967296 else A t) < 4294967296) ∧ (∀ t, t < k ∨ k + n < t → (if t = k + n then (G (k + n) + c) % 4294967296 else A t) = G t) ∧
    vl (fun t => if k + t = k + n then (G (k + n) + c) % 4294967296 else A (k + t)) (n + 1) = y := by
  obtain ⟨h1, h2, h3, h4, h5⟩ := h
  have hb : ∀ t, t < N → (if t = k + n then (G (k + n) + c) % 4294967296 else A t) < 4294967296 := fun t ht => by
    split
    · exact Nat.mod_lt _ (by decide)
    · exact h2 t ht
  have hG : G (k + n) < 4294967296 := by rw [← h3 _ (.inr (Nat.le_refl _))]; exact h2 _ hn
  refine ⟨h1.set _ _, hb, fun t ht => ?_, ?_⟩
  · rw [if_neg (by omega)]; exact h3 t (by omega)
  · have e : vl (fun t => if k + t = k + n then (G (k + n) + c) % 4294967296 else A (k + t)) n = vl (fun t => A (k + t)) n :=
      vl_congr fun t ht => by simp only [show ¬ k + t = k + n by omega, if_false]
    have hlt : vl (fun t => if k + t = k + n then (G (k + n) + c) % 4294967296 else A (k + t)) (n + 1) < bp (n + 1) := vl_lt fun t ht => hb (k + t) (by omega)
    rw [vl_succ, e] at hlt ⊢
    rw [vl_succ, bp_succ] at hX
    rw [bp_succ] at hlt
    simp only [if_true] at hlt ⊢
    rw [vl_dg_of_lt hv] at h5
    have hs : (G (k + n) + c) % 4294967296 * bp n + (G (k + n) + c) / 4294967296 * (4294967296 * bp n) = G (k + n) * bp n + c * bp n := by
      rw [← Nat.mul_assoc, ← Nat.add_mul, ← Nat.add_mul]
      congr 1
      omega
    have hq : (G (k + n) + c) / 4294967296 = 0 ∨ (G (k + n) + c) / 4294967296 = 1 := by omega
    rcases hq with hq | hq <;> rw [hq] at hs <;> simp only [Nat.zero_mul, Nat.one_mul] at hs <;> omega

theorem bitLenAux_lt : ∀ (f x : Nat), x < 2 ^ f → x < 2 ^ Lib.bitLenAux f x
  | 0, x, h => by simpa [Lib.bitLenAux] using h
  | f + 1, x, h => by
    unfold Lib.bitLenAux
    split
    · next e => subst e; decide
    · have := bitLenAux_lt f (x / 2) (by omega)
      rw [Nat.pow_add, Nat.pow_one]
      omega
theorem bitLen_lt {x : Nat} (h : x < 4294967296) : x < 2 ^ Lib.bitLen x := bitLenAux_lt 64 x (by omega)
theorem bitLen_pos {x : Nat} (h : x ≠ 0) : 1 ≤ Lib.bitLen x := by
  unfold Lib.bitLen Lib.bitLenAux
  rw [if_neg h]
  omega

/-- the shift that brings the top word's first bit to the front -/
theorem norm_shift {b : Nat} (hb : 0 < b) : ∃ s : Nat, s < 32 ∧ (32 : Int) - (Lib.bitLen (dg b (wl b - 1)) : Int) = (s : Int) ∧ b * 2 ^ s < bp (wl b) := by
  have ht := dg_top hb
  have hd := dg_lt b (wl b - 1)
  have hp := wl_pos hb
  have h1 := bitLen_lt hd
  have h2 := bitLen_pos ht
  have h3 := Lib.bitLen_le (dg b (wl b - 1)) 32 (by decide) (by omega)
  refine ⟨32 - Lib.bitLen (dg b (wl b - 1)), by omega, by omega, ?_⟩
  obtain ⟨n, hn⟩ : ∃ n, wl b = n + 1 := ⟨wl b - 1, by omega⟩
  rw [hn, Nat.add_sub_cancel] at h1 h3 ht ⊢
  have hv : vl (dg b) (n + 1) = b := vl_dg_of_lt (by rw [← hn]; exact lt_bp_wl b)
  rw [vl_succ] at hv
  have h4 : vl (dg b) n < bp n := vl_lt fun i _ => dg_lt b i
  have h5 : (dg b n + 1) * bp n ≤ 2 ^ Lib.bitLen (dg b n) * bp n := Nat.mul_le_mul_right _ h1
  have h6 : b < 2 ^ Lib.bitLen (dg b n) * bp n := by rw [Nat.add_mul] at h5; omega
  have h7 : 2 ^ Lib.bitLen (dg b n) * bp n * 2 ^ (32 - Lib.bitLen (dg b n)) = bp (n + 1) := by
    rw [Nat.mul_right_comm, ← Nat.pow_add, show Lib.bitLen (dg b n) + (32 - Lib.bitLen (dg b n)) = 32 by omega, bp_succ]
  rw [← h7]
  exact Nat.mul_lt_mul_of_pos_right h6 (Nat.pow_pos (by decide))
theorem or_top {h l : Nat} (hh : h < 4294967296) (hl : l < 4294967296) : bits .or .u64 ((h : Int) * 4294967296) (l : Int) = ((h * 4294967296 + l : Nat) : Int) := by
  have e : (h : Int) * 4294967296 = ((h * 4294967296 : Nat) : Int) := by omega
  rw [e, u64_or_nat _ _ (by omega) (by omega)]
  congr 1
  have := Nat.two_pow_add_eq_or_of_lt (i := 32) (b := l) (by simpa using hl) h
  rw [Nat.mul_comm h]
  exact this.symm

/-- what the estimate of a digit rests on: the top words u0, u1, u2 of the window, v1, v2 of the divisor -/
structure Est (w v u0 u1 u2 v1 v2 q : Nat) : Prop where
  high : ∀ d r, d * v1 + r = u0 * 4294967296 + u1 → r * 4294967296 + u2 < d * v2 → q < d
  low : ∀ d r, d * v1 + r = u0 * 4294967296 + u1 → d ≤ 4294967295 → d * v2 ≤ r * 4294967296 + u2 → d ≤ q + 1
  start : q ≤ (u0 * 4294967296 + u1) / v1
  out : ∀ d r, d * v1 + r = u0 * 4294967296 + u1 → 4294967296 ≤ r → d ≤ 4294967295 ∧ d * v2 ≤ r * 4294967296 + u2
  q_le : q ≤ 4294967295
  v1_pos : 0 < v1
  u0_lt : u0 < 4294967296
  u1_lt : u1 < 4294967296
  u2_lt : u2 < 4294967296
  v1_lt : v1 < 4294967296
  v2_lt : v2 < 4294967296

theorem est {w v p : Nat} (hw : w < v * 4294967296) (hv : v < bp (p + 2)) (hlo : bp (p + 1) ≤ v) :
    Est w v (dg w (p + 2)) (dg w (p + 1)) (dg w p) (dg v (p + 1)) (dg v p) (w / v) := by
  have hP := bp_pos p
  have hw3 : w < bp (p + 3) := by rw [bp_succ (p + 2)]; omega
  have t3 := top3 hw3
  have t2 := top2 hv
  have a0 := dg_lt w (p + 2)
  have a1 := dg_lt w (p + 1)
  have a2 := dg_lt w p
  have b1 := dg_lt v (p + 1)
  have b2 := dg_lt v p
  have hv0 : 0 < v := by have := bp_pos (p + 1); omega
  have hq : w / v ≤ 4294967295 := by
    have := Nat.div_lt_of_lt_mul hw
    omega
  have hvp : 0 < dg v (p + 1) := by
    rcases Nat.eq_zero_or_pos (dg v (p + 1)) with e | e
    · rw [e] at t2
      have : v / bp p < 4294967296 := by omega
      have h1 := (Nat.div_lt_iff_lt_mul hP).1 this
      rw [bp_succ] at hlo
      omega
    · exact e
  generalize dg w (p + 2) = u0 at *
  generalize dg w (p + 1) = u1 at *
  generalize dg w p = u2 at *
  generalize dg v (p + 1) = v1 at *
  generalize dg v p = v2 at *
  have hlo' : 4294967296 * bp p ≤ v := by rw [bp_succ] at hlo; exact hlo
  have key : ∀ d r, d * v1 + r = u0 * 4294967296 + u1 → (d * (v / bp p) + (r * 4294967296 + u2) = w / bp p + d * v2) := by
    intro d r h
    rw [t2, t3, ← h]
    grind
  have hu0 : u0 ≤ v1 := by
    have h1 : w / bp p < v / bp p * 4294967296 + 4294967296 := by
      apply (Nat.div_lt_iff_lt_mul hP).2
      have h2 : v < (v / bp p + 1) * bp p := by
        have := Nat.div_add_mod v (bp p)
        have := Nat.mod_lt v hP
        have e : (v / bp p + 1) * bp p = bp p * (v / bp p) + bp p := by grind
        omega
      have e : (v / bp p * 4294967296 + 4294967296) * bp p = (v / bp p + 1) * bp p * 4294967296 := by grind
      rw [e]
      have h3 : v * 4294967296 ≤ (v / bp p + 1) * bp p * 4294967296 := Nat.mul_le_mul_right _ (Nat.le_of_lt h2)
      exact Nat.lt_of_lt_of_le hw h3
    rw [t2, t3] at h1
    omega
  refine ⟨fun d r h1 h2 => ?_, fun d r h1 h2 h3 => ?_, ?_, fun d r h1 h2 => ?_, hq, hvp, a0, a1, a2, b1, b2⟩
  · have := key d r h1
    exact guess_high hP (by omega)
  · have := key d r h1
    exact guess_low hP h2 hlo' (by omega)
  · rcases Nat.lt_or_ge ((u0 * 4294967296 + u1) / v1) (w / v) with hlt | hge
    · exfalso
      have h1 := Nat.div_add_mod (u0 * 4294967296 + u1) v1
      have h2 := Nat.mod_lt (u0 * 4294967296 + u1) hvp
      generalize (u0 * 4294967296 + u1) / v1 = d at *
      generalize (u0 * 4294967296 + u1) % v1 = r at *
      -- the digit d + 1 fails the test on the first words alone
      have h3 : (d + 1) * v1 = v1 * d + v1 := by grind
      have h4 : w / bp p < (d + 1) * (v / bp p) := by
        rw [t2, t3]
        have e : (d + 1) * (v1 * 4294967296 + v2) = (d + 1) * v1 * 4294967296 + (d + 1) * v2 := by grind
        rw [e, h3]
        omega
      have := guess_high hP h4
      omega
    · exact hge
  · have h3 : d * v1 < v1 * 4294967296 := by
      have : u0 * 4294967296 ≤ v1 * 4294967296 := Nat.mul_le_mul_right _ hu0
      omega
    rw [Nat.mul_comm d] at h3
    have h4 := Nat.lt_of_mul_lt_mul_left h3
    refine ⟨by omega, ?_⟩
    have : d * v2 ≤ 4294967295 * 4294967295 := Nat.mul_le_mul (by omega) (by omega)
    omega
theorem est_row {r v k n : Nat} (hn : 2 ≤ n) (hr : r < v * bp (k + 1)) (hv : v < bp n) (hlo : bp (n - 1) ≤ v) :
    Est (r / bp k) v (dg r (k + n)) (dg r (k + n - 1)) (dg r (k + n - 2)) (dg v (n - 1)) (dg v (n - 2)) (r / bp k / v) := by
  obtain ⟨p, rfl⟩ : ∃ p, n = p + 2 := ⟨n - 2, by omega⟩
  have h := est (window hr hv).1 hv hlo
  rw [← dg_shift, ← dg_shift, ← dg_shift] at h
  exact h
end Go.Proofs.YtenpbnmmadbkdaaGreat


/- nats.long: the long division. -/
namespace Go.Proofs.YtenpbnmmadbkdaaGreat
open Go.RowKit
attribute [local go_sem ↓] Go.wp_at_zero Go.wp_at_succ

/-- what the long division leaves: the quotient's words, the remainder's -/
def LongPost (a b n m : Nat) (w : World) (e : Ending) (w' : World) : Prop :=
  ∃ gq gu : Nat, e = .returned (.tuple #[.slice (some ⟨gq, 0, none⟩) (m + 1) (m + 1), .slice (some ⟨gu, 0, none⟩) (n + m + 1) (n + m + 1)]) ∧
    Ws w' gq (m + 1) (dg (a / b)) ∧ Ws w' gu (n + m + 1) (dg (a % b)) ∧ Below w.heap.size w w'

set_option maxHeartbeats 4000000 in
set_option maxRecDepth 100000 in
theorem long_any (a b n m bx cx by' cy : Nat) (w : World) (hN : wl b = n) (hA : wl a = n + m) (ha : n + m < 1099511627776) (hb2 : 2 ≤ n)
    (hx : ∀ i, i < n + m → w.cell? ⟨bx, i, none⟩ = some (.int .u32 ((dg a i : Nat) : Int))) (hbx : bx < w.heap.size)
    (hy : ∀ i, i < n → w.cell? ⟨by', i, none⟩ = some (.int .u32 ((dg b i : Nat) : Int))) (hby : by' < w.heap.size) :
    Calls Tryz.prog 102 #[.slice (some ⟨bx, 0, none⟩) (n + m) cx, .slice (some ⟨by', 0, none⟩) n cy] w (LongPost a b n m w) := by
  have hb0 : 0 < b := by
    rcases Nat.eq_zero_or_pos b with e | e
    · subst e; simp [wl_zero] at hN; omega
    · exact e
  obtain ⟨s, hs, hs32, hV⟩ := norm_shift hb0
  have htop := hy (n - 1) (by omega)
  have HX := Lib.hid hx
  have HY := Lib.hid hy
  have HN := Lib.hid hN
  have HA := Lib.hid hA
  rw [hN] at hs32 hV
  have HVV := Lib.hid hV
  have hd := dg_lt b (n - 1)
  clear hx hy hV hN hA
  have hn1 : (1 : Int) ≤ (n : Int) := by omega
  have hn0 : (0 : Int) ≤ (n : Int) := by omega
  have hnn : (n : Int) ≤ (n : Int) + 1 := by omega
  go_enter Tryz.func102, Tryz.ntmps102
  go_wp2_with (go_at_call 112; refine (lz32_any _ _ (by omega) (by omega)).mono ?_; rintro e w' ⟨rfl, rfl⟩)
  go_region_held3 (fun w' => Below w.heap.size w w') (first | exact (Below.refl _ _).drew | assumption | exact grow (by assumption) (by assumption))
    (first
      | (go_at_call_of 113 (Value.slice (some ⟨bx, 0, none⟩) (n + m) cx); refine (shifted_any a bx cx (n + m) s _ (Nat.le_of_lt ha) (fun i hi => ?_) ?_ (by rw [← HA.out]; exact lt_bp_wl a) hs).mono ?_; exact (HX.out i hi); exact hbx; rintro e w1 ⟨bu, rfl, hbu, hwu, hblu⟩; have hu := hblu.size)
      | (go_at_call_of 113 (Value.slice (some ⟨by', 0, none⟩) n cy); refine (shifted_any b by' cy n s _ (by omega) (fun i hi => ?_) ?_ (by rw [← HN.out]; exact lt_bp_wl b) hs).mono ?_; exact ((hblu.cell (p := ⟨by', i, none⟩) hby).trans (HY.out i hi)); exact Nat.lt_of_lt_of_le hby hu; rintro e w2 ⟨bv, rfl, hbv, hwv, hblv⟩))
  have HB2 : Hid (Below w.heap.size w w2) := by assumption
  obtain ⟨U, HU⟩ : ∃ U, Hid (a * 2 ^ s = U) := ⟨_, Lib.hid rfl⟩
  obtain ⟨V, HV⟩ : ∃ V, Hid (b * 2 ^ s = V) := ⟨_, Lib.hid rfl⟩
  rw [HU.out] at hwu
  rw [HV.out] at hwv HVV
  have hbu' : w.heap.size ≤ bu := hbu
  have hbv' : w1.heap.size ≤ bv := hbv
  have hu' : w.heap.size ≤ w1.heap.size := hu
  have hltu := hwu.lt
  have hltv := hwv.lt
  have hne : bv ≠ bu := by omega
  have H1 := Lib.hid (hwu.below hblv hltu)
  have H2 := Lib.hid hwv
  have hltu2 := H1.out.lt
  have hpow : 0 < 2 ^ s := Nat.pow_pos (by decide)
  have hV0 : 0 < V := by rw [← HV.out]; exact Nat.mul_pos hb0 hpow
  have hVlo : Hid (bp (n - 1) ≤ V) := by
    show bp (n - 1) ≤ V
    rw [← HV.out]
    have h1 : bp (n - 1) ≤ b := lt_wl.1 (by rw [HN.out]; omega)
    exact Nat.le_trans h1 (Nat.le_mul_of_pos_right _ hpow)
  have hUlt : Hid (U < V * bp (m + 1)) := by
    show U < V * bp (m + 1)
    rw [← HV.out, ← HU.out, Nat.mul_right_comm]
    refine Nat.mul_lt_mul_of_pos_right ?_ hpow
    have h1 : bp (n - 1) ≤ b := lt_wl.1 (by rw [HN.out]; omega)
    have h2 : a < bp (n + m) := by rw [← HA.out]; exact lt_bp_wl a
    have h3 : bp (n - 1) * bp (m + 1) ≤ b * bp (m + 1) := Nat.mul_le_mul_right _ h1
    rw [← bp_add, show n - 1 + (m + 1) = n + m by omega] at h3
    omega
  clear hwu hwv hbu hbv hblu hblv hu htop hd
  have hmk := make_ws ((n : Int) + (m : Int) + 1 - (n : Int)) (m + 1) (by omega) (by omega)
  have hmk2 := make_ws ((m : Int) + 1) (m + 1) (by omega) (by omega)
  go_wp2_with fail
  have HM1 := Lib.hid hmk
  have HM2 := Lib.hid hmk2
  clear hmk hmk2
  have HQ0 : Hid (Ws (w2.alloc (.cells (madeCells #[.int .u32 0] (m + 1)) 22)) w2.heap.size (m + 1) fun _ => 0) := Ws.made w2 _
  have HU0 : Hid (Ws (w2.alloc (.cells (madeCells #[.int .u32 0] (m + 1)) 22)) bu (n + m + 1) (dg (U % (V * bp (m + 1))))) := by
    show Ws _ _ _ _
    rw [Nat.mod_eq_of_lt hUlt.out]
    exact H1.out.alloc _
  have HV0 : Hid (Ws (w2.alloc (.cells (madeCells #[.int .u32 0] (m + 1)) 22)) bv (n + 1) (dg V)) := H2.out.alloc _
  have HB0 : Hid (Below w.heap.size w (w2.alloc (.cells (madeCells #[.int .u32 0] (m + 1)) 22))) := HB2.out.alloc HB2.out.size _
  obtain ⟨bq, hbq⟩ : ∃ bq, w2.heap.size = bq := ⟨_, rfl⟩
  have hsz2 := HB2.out.size
  have hq1 : w.heap.size ≤ bq := by omega
  have hq2 : bv ≠ bq := by omega
  have hq3 : bu ≠ bq := by omega
  rw [hbq] at HQ0 ⊢
  have HBQ := Lib.hid hbq
  clear H1 H2 HB2 hltu2 hltv hltu hbq hsz2 hu' hbv'
  go_loopw [10] (fun i wr => ∃ j : Nat, j ≤ m + 1 ∧ i = .int .i64 ((j : Int) - 1) ∧ Ws wr bu (n + m + 1) (dg (U % (V * bp j))) ∧ Ws wr bq (m + 1) (fun t => if j ≤ t then dg (U / V) t else 0) ∧ Ws wr bv (n + 1) (dg V) ∧ Below w.heap.size w wr) (fun i _ => (intOf i + 1).toNat)
  case atStart =>
    refine ⟨m + 1, Nat.le_refl _, ?_, HU0.out, HQ0.out.congr fun t ht => by rw [if_neg (by omega)], HV0.out, HB0.out⟩
    go_num
  case round =>
    obtain ⟨j, hj, rfl, hwu, hwq, hwv, hbel⟩ := hrel
    clear HQ0 HU0 HV0 HB0
    rcases j with _ | k
    · have L1 := Lib.hid hwu
      have L2 := Lib.hid (hwq.congr (g := dg (U / V)) fun t _ => by rw [if_pos (Nat.zero_le _)])
      have L3 := Lib.hid hbel
      clear hwu hwq hwv hbel
      rw [show (((0 : Nat) : Int) - 1) = -1 from rfl]
      go_wp2
      have hUV : U % V < bp (n + m + 1) := by
        have h1 := Nat.mod_lt U hV0
        have h2 : bp (n + (m + 1)) = bp n * bp (m + 1) := bp_add _ _
        have h3 := HVV.out
        have h4 : bp n * 1 ≤ bp n * bp (m + 1) := Nat.mul_le_mul_left _ (bp_pos _)
        rw [show n + m + 1 = n + (m + 1) by omega]
        omega
      have HUV := Lib.hid hUV
      clear hUV
      go_loopw [168] (fun i wx => ∃ t : Nat, t ≤ s ∧ i = .int .i64 t ∧ Ws wx bu (n + m + 1) (dg (U % V / 2 ^ t)) ∧ wr.grownBy wx (some bu)) (fun i _ => s - (intOf i).toNat)
      case atStart =>
        refine ⟨0, by omega, rfl, ?_, only_refl _ _⟩
        have := L1.out
        rw [bp_zero, Nat.mul_one] at this
        rw [Nat.pow_zero, Nat.div_one]
        exact this
      case round =>
        obtain ⟨t, ht, rfl, hrow, hon⟩ := hrel
        by_cases hts : t < s
        · have M1 := Lib.hid hrow
          have M2 := Lib.hid hon
          clear hrow hon
          go_wp2_with (go_at_call 115; refine (half_any _ bu _ (n + m + 1) _ (by omega) M1.out (Nat.lt_of_le_of_lt (Nat.div_le_self _ _) HUV.out)).mono ?_; rintro e w' ⟨rfl, k1, k2⟩; have K1 := Lib.hid k1; have K2 := Lib.hid k2; clear k1 k2)
          go_roundw
          case rel =>
            refine ⟨t + 1, by omega, by go_num, ?_, only_trans M2.out K2.out⟩
            rw [Nat.pow_succ, ← Nat.div_div_eq_div_mul]
            exact K1.out
          case measure => simp [intOf]; omega
        · obtain rfl : t = s := by omega
          have M1 := Lib.hid hrow
          have M2 := Lib.hid hon
          clear hrow hon
          go_wp2
          go_ret2
          have hdiv : U / V = a / b := by rw [← HU.out, ← HV.out, Nat.mul_div_mul_right _ _ hpow]
          have hmod : U % V / 2 ^ t = a % b := by rw [← HU.out, ← HV.out, Nat.mul_mod_mul_right, Nat.mul_div_cancel _ hpow]
          refine ⟨bq, bu, rfl, ?_, ?_, L3.out.grown M2.out L3.out.size (fun g hg => by injection hg with hg; omega)⟩
          · rw [← hdiv]
            exact L2.out.only M2.out (Ne.symm hq3)
          · rw [← hmod]
            exact M1.out
    · rw [show (((k + 1 : Nat) : Int) - 1) = (k : Int) from by omega]
      have H1 := Lib.hid hwu
      have H2 := Lib.hid hwq
      have H3 := Lib.hid hwv
      have H4 := Lib.hid hbel
      clear hwu hwq hwv hbel
      have hR : U % (V * bp (k + 1)) < V * bp (k + 1) := Nat.mod_lt _ (Nat.mul_pos hV0 (bp_pos _))
      have hE := est_row hb2 hR HVV.out hVlo.out
      have hW := window hR HVV.out
      obtain ⟨R, HR⟩ : ∃ R, Hid (U % (V * bp (k + 1)) = R) := ⟨_, Lib.hid rfl⟩
      rw [HR.out] at H1 hE hW hR
      have hc1 := H1.out.cell (show k + n < n + m + 1 by omega)
      have hc2 := H1.out.cell (show k + n - 1 < n + m + 1 by omega)
      have hc3 := H1.out.cell (show k + n - 2 < n + m + 1 by omega)
      have hc4 := H3.out.cell (show n - 1 < n + 1 by omega)
      have hc5 := H3.out.cell (show n - 2 < n + 1 by omega)
      obtain ⟨u0, HU0⟩ : ∃ u0, Hid (dg R (k + n) = u0) := ⟨_, Lib.hid rfl⟩
      obtain ⟨u1, HU1⟩ : ∃ u1, Hid (dg R (k + n - 1) = u1) := ⟨_, Lib.hid rfl⟩
      obtain ⟨u2, HU2⟩ : ∃ u2, Hid (dg R (k + n - 2) = u2) := ⟨_, Lib.hid rfl⟩
      obtain ⟨v1, HV1⟩ : ∃ v1, Hid (dg V (n - 1) = v1) := ⟨_, Lib.hid rfl⟩
      obtain ⟨v2, HV2⟩ : ∃ v2, Hid (dg V (n - 2) = v2) := ⟨_, Lib.hid rfl⟩
      obtain ⟨q, HQ⟩ : ∃ q, Hid (R / bp k / V = q) := ⟨_, Lib.hid rfl⟩
      rw [HU0.out] at hE hc1
      rw [HU1.out] at hE hc2
      rw [HU2.out] at hE hc3
      rw [HV1.out] at hE hc4
      rw [HV2.out] at hE hc5
      rw [HQ.out] at hE
      have hu0 := hE.u0_lt
      have hu1 := hE.u1_lt
      have hu2 := hE.u2_lt
      have hv1 := hE.v1_lt
      have hv2 := hE.v2_lt
      have hv0 := hE.v1_pos
      have hq := hE.q_le
      have HE := Lib.hid hE
      have HW := Lib.hid hW
      have HRR := Lib.hid hR
      clear hE hW hR
      have hor := or_top hu0 hu1
      obtain ⟨T, HT⟩ : ∃ T, Hid (u0 * 4294967296 + u1 = T) := ⟨_, Lib.hid rfl⟩
      have hTlt : T < 18446744073709551616 := by rw [← HT.out]; omega
      rw [HT.out] at hor
      obtain ⟨D0, HD0⟩ : ∃ D0, Hid (T / v1 = D0) := ⟨_, Lib.hid rfl⟩
      obtain ⟨R0, HR0⟩ : ∃ R0, Hid (T % v1 = R0) := ⟨_, Lib.hid rfl⟩
      have hd0 : (T : Int) / (v1 : Int) = (D0 : Int) := by rw [← HD0.out]; simp
      have hr0 : (T : Int) % (v1 : Int) = (R0 : Int) := by rw [← HR0.out]; simp
      have hD0 : D0 < 18446744073709551616 := by rw [← HD0.out]; exact Nat.lt_of_le_of_lt (Nat.div_le_self _ _) hTlt
      have hR0 : R0 < v1 := by rw [← HR0.out]; exact Nat.mod_lt _ hv0
      have hv1i : (1 : Int) ≤ (v1 : Int) := by omega
      have hv1z : (((v1 : Nat) : Int) == 0) = false := beq_eq_false_iff_ne.2 (by omega)
      have hi1 : (0 : Int) ≤ (k : Int) + (n : Int) := by omega
      have hi2 : (k : Int) + (n : Int) < (n : Int) + (m : Int) + 1 := by omega
      have hi3 : (0 : Int) ≤ (k : Int) + (n : Int) - 1 := by omega
      have hi4 : (k : Int) + (n : Int) - 1 < (n : Int) + (m : Int) + 1 := by omega
      have hi5 : ((k : Int) + (n : Int) - 1).toNat = k + n - 1 := by omega
      have hi6 : (0 : Int) ≤ (n : Int) - 1 := by omega
      have hi7 : (n : Int) - 1 < (n : Int) := by omega
      have hi8 : ((n : Int) - 1).toNat = n - 1 := by omega
      go_wp2_with fail
      go_step3
      go_wp2_with fail
      go_quiet (fail)
      go_wp2_with fail
      go_quiet (fail)
      go_wp2_with fail
      go_step3
      go_upto_block 2 with fail
      rw [hr0]
      have hHT : Hid (D0 * v1 + R0 = u0 * 4294967296 + u1) := by
        show D0 * v1 + R0 = u0 * 4294967296 + u1
        rw [HT.out, ← HD0.out, ← HR0.out, Nat.mul_comm]
        exact Nat.div_add_mod T v1
      have hq0 : Hid (q ≤ D0) := by
        show q ≤ D0
        rw [← HD0.out, ← HT.out]
        exact HE.out.start
      clear hor hd0 hr0
      go_cut [12] (fun s12 wx => ∃ d z : Nat, s12 = .int .u64 d ∧ q ≤ d ∧ d ≤ q + 1 ∧ d ≤ 4294967295 ∧ wx = wr.drewN z)
      case first =>
        go_wp2_with fail
        go_loopw [12, 13] (fun x y wx => ∃ d r z : Nat, x = .int .u64 d ∧ y = .int .u64 r ∧ q ≤ d ∧ d ≤ D0 ∧ r < 8589934592 ∧ Hid (d * v1 + r = u0 * 4294967296 + u1) ∧ wx = wr.drewN z) (fun x _ _ => (intOf x).toNat)
        case atStart =>
          exact ⟨D0, R0, _, rfl, rfl, hq0.out, Nat.le_refl _, by omega, hHT, World.drewN_drewN _ _ _⟩
        case round =>
          obtain ⟨d, r, z, rfl, rfl, hqd, hdD, hr, HDR, rfl⟩ := hrel
          by_cases hr1 : r ≤ 4294967295
          · obtain ⟨P, hP, HP⟩ : ∃ P : Nat, ((d : Nat) : Int) * ((v2 : Nat) : Int) = (P : Int) ∧ Hid (d * v2 = P) := ⟨d * v2, (Int.natCast_mul _ _).symm, Lib.hid rfl⟩
            have hj1 : (0 : Int) ≤ (k : Int) + (n : Int) - 2 := by omega
            have hj2 : (k : Int) + (n : Int) - 2 < (n : Int) + (m : Int) + 1 := by omega
            have hj3 : ((k : Int) + (n : Int) - 2).toNat = k + n - 2 := by omega
            have hj4 : (0 : Int) ≤ (n : Int) - 2 := by omega
            have hj5 : (n : Int) - 2 < (n : Int) := by omega
            have hj6 : ((n : Int) - 2).toNat = n - 2 := by omega
            have hor2 := or_top (show r < 4294967296 by omega) hu2
            obtain ⟨S, HSS⟩ : ∃ S, Hid (r * 4294967296 + u2 = S) := ⟨_, Lib.hid rfl⟩
            rw [HSS.out] at hor2
            by_cases hd1 : d ≤ 4294967295
            · have hPb : P ≤ 18446744065119617025 := by
                rw [← HP.out]
                exact Nat.mul_le_mul hd1 (show v2 ≤ 4294967295 by omega)
              have hg : decide ((d : Int) ≤ 4294967295) = true := decide_eq_true (by omega)
              by_cases hPS : P ≤ S
              · have hPS2 : decide ((P : Int) ≤ (S : Int)) = true := decide_eq_true (by omega)
                go_wp2_with fail
                go_quiet (fail)
                go_wp2_with fail
                go_meet
                exact ⟨d, _, rfl, hqd, HE.out.low d r HDR.out hd1 (by rw [HP.out, HSS.out]; exact hPS), hd1, World.drewN_drewN _ _ _⟩
              · have hPS2 : decide ((P : Int) ≤ (S : Int)) = false := decide_eq_false (by omega)
                have hqlt : q < d := HE.out.high d r HDR.out (by rw [HP.out, HSS.out]; omega)
                go_wp2_with fail
                go_quiet (fail)
                go_wp2_with fail
                go_roundw
                case rel =>
                  refine ⟨d - 1, r + v1, _, congrArg (Value.int IntKind.u64) (by omega), congrArg (Value.int IntKind.u64) (by omega), by omega, by omega, by omega, ?_, rfl⟩
                  show (d - 1) * v1 + (r + v1) = _
                  rw [← HDR.out]
                  obtain ⟨e, rfl⟩ : ∃ e, d = e + 1 := ⟨d - 1, by omega⟩
                  rw [Nat.add_sub_cancel, Nat.add_mul]
                  omega
                case measure => simp [intOf]; omega
            · have hg : decide ((d : Int) ≤ 4294967295) = false := decide_eq_false (by omega)
              have hqlt : q < d := by omega
              go_wp2_with fail
              go_quiet (fail)
              go_wp2_with fail
              go_roundw
              case rel =>
                refine ⟨d - 1, r + v1, _, congrArg (Value.int IntKind.u64) (by omega), congrArg (Value.int IntKind.u64) (by omega), by omega, by omega, by omega, ?_, rfl⟩
                show (d - 1) * v1 + (r + v1) = _
                rw [← HDR.out]
                obtain ⟨e, rfl⟩ : ∃ e, d = e + 1 := ⟨d - 1, by omega⟩
                rw [Nat.add_sub_cancel, Nat.add_mul]
                omega
              case measure => simp [intOf]; omega
          · obtain ⟨o1, o2⟩ := HE.out.out d r HDR.out (by omega)
            have hlow := HE.out.low d r HDR.out o1 o2
            go_wp2_with fail
            go_meet
            exact ⟨d, _, rfl, hqd, hlow, o1, rfl⟩
      case rest =>
        obtain ⟨d, z, rfl, hqd, hd1, hd2, rfl⟩ := hcut
        clear hi1 hi2 hi3 hi4 hi5 hi6 hi7 hi8 hc1 hc2 hc3 hc4 hc5 hu0 hu1 hu2 hv1 hv2 hv0 hv1i hv1z hTlt hD0 hR0
        have hk1 : (k : Int) ≤ (n : Int) + (m : Int) + 1 := by omega
        go_wp2_with fail
        rw [show k + n + 1 - k = n + 1 from by omega]
        refine (less_any (dg R) k n (n + m + 1) bu bv _ _ V d _ (by omega) (by omega) (by omega) (H1.out.drewN z) (fun t _ => dg_lt R t) (fun i hi => (H3.out.drewN z).cell (by omega)) H3.out.lt hne HVV.out (by omega)).mono ?_
        rintro e w3 ⟨G, ln, rfl, hln, hG, hGl, hGo, hGv, hon⟩
        rw [HW.out.2.2] at hGv
        have K1 := Lib.hid hG
        have K2 := Lib.hid hGl
        have K3 := Lib.hid hGo
        have K4 := Lib.hid hGv
        have K5 := Lib.hid hon
        have K6 : Hid (Ws w3 bv (n + 1) (dg V)) := (H3.out.drewN z).only hon hne
        have K7 : Hid (Ws w3 bq (m + 1) fun t => if k + 1 ≤ t then dg (U / V) t else 0) := (H2.out.drewN z).only hon (Ne.symm hq3)
        have K8 : Hid (Below w.heap.size w w3) := (below_drewN H4.out z).grown hon H4.out.size (fun g hg => by injection hg with hg; omega)
        have hRb : R < bp (k + n + 1) := by
          have h1 := HRR.out
          have h2 : V * bp (k + 1) ≤ bp n * bp (k + 1) := Nat.mul_le_mul_right _ (Nat.le_of_lt HVV.out)
          rw [← bp_add, show n + (k + 1) = k + n + 1 by omega] at h2
          omega
        have HRB := Lib.hid hRb
        clear hG hGl hGo hGv hon hRb
        go_upto_if 125 with fail
        go_cut [12] (fun s12 wx => s12 = .int .u64 q ∧ Ws wx bu (n + m + 1) (dg (U % (V * bp k))) ∧ Ws wx bq (m + 1) (fun t => if k + 1 ≤ t then dg (U / V) t else 0) ∧ Ws wx bv (n + 1) (dg V) ∧ Below w.heap.size w wx)
        case first =>
          rcases (show ln = 0 ∨ ln = 1 by omega) with rfl | rfl
          · have hz := less_zero hV0 K4.out (by rw [HQ.out]; exact hqd)
            have HZ := Lib.hid hz
            clear hz
            go_wp2_with fail
            go_meet
            refine ⟨by rw [HZ.out.1, HQ.out], ?_, K7.out, K6.out, K8.out⟩
            refine K1.out.congr fun t ht => ?_
            rw [row_value (by omega) K2.out K3.out HRB.out t ht, HZ.out.2, ← next_row, ← HR.out, next_rest]
          · have hX : vl (fun t => G (k + t)) (n + 1) < bp (n + 1) := vl_lt fun t ht => K2.out (k + t) (by omega)
            obtain ⟨z1, z2⟩ := less_one K4.out hX (by rw [HQ.out]; exact hd1)
            rw [HQ.out] at z1
            have HZ := Lib.hid z2
            have HZ1 := Lib.hid z1
            have hd0 : 1 ≤ d := by omega
            clear hX z1 z2
            have HBK : Hid (BackRow G k V 0 0 (n + m + 1) bu w3 G) := ⟨K1.out, K2.out, fun _ _ => rfl, by omega, by simp [vl]⟩
            go_wp2_with fail
            rw [show ((d : Int) - 1) = (q : Int) from by have := HZ1.out; omega]
            rw [show decide ((0 : Nat) < 1) = true from rfl]
            clear hqd hd1 hd2 hd0
            go_loopw [14, 130] (fun c i wx => ∃ (i' c' : Nat) (A : Nat → Nat), i' ≤ n ∧ i = .int .i64 i' ∧ c = .int .u32 c' ∧ BackRow G k V i' c' (n + m + 1) bu wx A ∧ w3.grownBy wx (some bu)) (fun _ i _ => n - (intOf i).toNat)
            case atStart => exact ⟨0, 0, G, by omega, rfl, rfl, HBK.out, only_refl _ _⟩
            case round =>
              obtain ⟨i, c, A, hi, rfl, rfl, hrow, hon⟩ := hrel
              have hc := hrow.2.2.2.1
              by_cases hin : i < n
              · have hcell := hrow.1.cell (show k + i < n + m + 1 by omega)
                rw [hrow.2.2.1 _ (.inr (Nat.le_refl _))] at hcell
                have hcell2 := (K6.out.only hon hne).cell (show i < n + 1 by omega)
                have hfr := hrow.1.frozen (k + i)
                have HST := Lib.hid (hrow.step (show k + i < n + m + 1 by omega))
                have hd := dg_lt V i
                have hGi := K2.out (k + i) (by omega)
                have e1 : ((G (k + i) : Int) + (dg V i : Int) + (c : Int)) % 4294967296 = (((G (k + i) + dg V i + c) % 4294967296 : Nat) : Int) := by omega
                have e2 : ((G (k + i) : Int) + (dg V i : Int) + (c : Int)) / 4294967296 = (((G (k + i) + dg V i + c) / 4294967296 : Nat) : Int) := by omega
                have E1 := Lib.hid e1
                have E2 := Lib.hid e2
                have HON := Lib.hid hon
                have hj1 : (0 : Int) ≤ (k : Int) + (i : Int) := by omega
                have hj2 : (k : Int) + (i : Int) < (n : Int) + (m : Int) + 1 := by omega
                clear hrow hon e1 e2
                go_wp2_with (go_at_call 106; refine (add32_any _ _ _ _ (by omega) (by omega) (by omega) (by omega) (by omega) (by omega)).mono ?_; rintro e w' ⟨rfl, rfl⟩)
                go_roundw
                case rel =>
                  refine ⟨i + 1, (G (k + i) + dg V i + c) / 4294967296, fun t => if t = k + i then (G (k + i) + dg V i + c) % 4294967296 else A t, by omega, by go_num, by rw [E2.out], ?_, only_setCell HON.out _ _⟩
                  rw [E1.out]
                  exact HST.out
                case measure => simp [intOf]; omega
              · obtain rfl : i = n := by omega
                have hcell := hrow.1.cell (show k + i < i + m + 1 by omega)
                rw [hrow.2.2.1 _ (.inr (Nat.le_refl _))] at hcell
                have hfr := hrow.1.frozen (k + i)
                have HST := Lib.hid (hrow.last (by omega) HVV.out HZ.out)
                have hGi := K2.out (k + i) (by omega)
                have e1 : ((G (k + i) : Int) + (c : Int)) % 4294967296 = (((G (k + i) + c) % 4294967296 : Nat) : Int) := by omega
                have E1 := Lib.hid e1
                have HON := Lib.hid hon
                have hj1 : (0 : Int) ≤ (k : Int) + (i : Int) := by omega
                have hj2 : (k : Int) + (i : Int) < (i : Int) + (m : Int) + 1 := by omega
                clear hrow hon e1
                go_wp2_with fail
                go_meet
                rw [E1.out]
                obtain ⟨s1, s2, s3, s4⟩ := HST.out
                have hon2 := only_setCell HON.out (k + i) (.int .u32 (((G (k + i) + c) % 4294967296 : Nat) : Int))
                refine ⟨rfl, ?_, K7.out.only hon2 (Ne.symm hq3), K6.out.only hon2 hne, K8.out.grown hon2 K8.out.size (fun g hg => by injection hg with hg; omega)⟩
                refine s1.congr fun t ht => ?_
                rw [row_value (G := fun t => if t = k + i then (G (k + i) + c) % 4294967296 else A t) (by omega) s2 (fun t ht => (s3 t ht).trans (K3.out t ht)) HRB.out t ht, s4, ← next_row, ← HR.out, next_rest]
        case rest =>
          obtain ⟨rfl, J1, J2, J3, J4⟩ := hcut
          have hck := J2.cell (show k < m + 1 by omega)
          have hfk := J2.frozen k
          have L1 := Lib.hid J1
          have L2 := Lib.hid J2
          have L3 := Lib.hid J3
          have L4 := Lib.hid J4
          have hqd : Hid (dg (U / V) k = q) := by
            show dg (U / V) k = q
            rw [← HQ.out, ← HR.out, next_digit]
          clear J1 J2 J3 J4
          go_wp2_with fail
          rw [Exit.noGoto_normal]
          go_wp2_with fail
          go_roundw
          case rel =>
            refine ⟨k, by omega, (by go_num), L1.out.setOther hq3 _, ?_, L3.out.setOther hq2 _, L4.out.setCell hq1 _⟩
            refine (L2.out.set k q).congr fun t ht => ?_
            by_cases e : t = k
            · simp [e, hqd.out]
            · have e2 : (k + 1 ≤ t) ↔ (k ≤ t) := by omega
              simp [e, e2]
          case measure => simp [intOf]
end Go.Proofs.YtenpbnmmadbkdaaGreat


/- nats.Div. -/
namespace Go.Proofs.YtenpbnmmadbkdaaGreat
open Go.RowKit
attribute [local go_sem ↓] Go.wp_at_zero Go.wp_at_succ

/-- quotient and remainder -/
def DivPost (a b : Nat) (w : World) (e : Ending) (w' : World) : Prop :=
  (if b = 0 then e = .returned (.tuple #[(Value.agg #[.int .u64 (lo (0)), .string (bg (0))]), (Value.agg #[.int .u64 (lo (0)), .string (bg (0))]), .bool false]) else e = .returned (.tuple #[(Value.agg #[.int .u64 (lo (a / b)), .string (bg (a / b))]), (Value.agg #[.int .u64 (lo (a % b)), .string (bg (a % b))]), .bool true])) ∧ Below w.heap.size w w'

set_option maxHeartbeats 4000000 in
set_option maxRecDepth 100000 in
theorem div_any (a b : Nat) (w : World) (ha : wl a ≤ 549755813888) (hb : wl b ≤ 549755813888) :
    Calls Tryz.prog 75 #[(Value.agg #[.int .u64 (lo (a)), .string (bg (a))]), (Value.agg #[.int .u64 (lo (b)), .string (bg (b))])] w (DivPost a b w) := by
  obtain ⟨W0, HW⟩ : ∃ W0, Hid ((((w.alloc (.cells #[.int .u64 ((lo a : Nat) : Int), .string (bg a)] 30)).alloc (.cells #[.int .u64 ((lo b : Nat) : Int), .string (bg b)] 30)).alloc (.cells #[.int .u64 0, .string ⟨#[]⟩] 30)).alloc (.cells #[.int .u64 0, .string ⟨#[]⟩] 30) = W0) := ⟨_, Lib.hid rfl⟩
  have HS := Lib.hid (show w.heap.size + 4 = W0.heap.size by rw [← HW.out]; simp)
  have hza : w.heap.size < W0.heap.size := by rw [← HS.out]; omega
  have hzb : w.heap.size + 1 < W0.heap.size := by rw [← HS.out]; omega
  have hzc : w.heap.size + 1 + 1 < W0.heap.size := by rw [← HS.out]; omega
  have hzd : w.heap.size + 1 + 1 + 1 < W0.heap.size := by rw [← HS.out]; omega
  have hka : W0.cell? ⟨w.heap.size, 0, none⟩ = some (.int .u64 ((lo a : Nat) : Int)) := by rw [← HW.out]; simp [go_sem]
  have hkb : W0.cell? ⟨w.heap.size, 1, none⟩ = some (.string (bg a)) := by rw [← HW.out]; simp [go_sem]
  have hkc : W0.cell? ⟨w.heap.size + 1, 0, none⟩ = some (.int .u64 ((lo b : Nat) : Int)) := by rw [← HW.out]; simp [go_sem]
  have hkd : W0.cell? ⟨w.heap.size + 1, 1, none⟩ = some (.string (bg b)) := by rw [← HW.out]; simp [go_sem]
  have hke : W0.cell? ⟨w.heap.size + 1 + 1, 0, none⟩ = some (.int .u64 0) := by rw [← HW.out]; simp [go_sem]
  have hkf : W0.cell? ⟨w.heap.size + 1 + 1, 1, none⟩ = some (.string ⟨#[]⟩) := by rw [← HW.out]; simp [go_sem]
  have hkg : W0.frozen? ⟨w.heap.size + 1 + 1, 0, none⟩ = false := by rw [← HW.out]; simp [go_sem]
  have hkh : W0.frozen? ⟨w.heap.size + 1 + 1, 1, none⟩ = false := by rw [← HW.out]; simp [go_sem]
  have hki : W0.cell? ⟨w.heap.size + 1 + 1 + 1, 0, none⟩ = some (.int .u64 0) := by rw [← HW.out]; simp [go_sem]
  have hkj : W0.cell? ⟨w.heap.size + 1 + 1 + 1, 1, none⟩ = some (.string ⟨#[]⟩) := by rw [← HW.out]; simp [go_sem]
  have hkk : W0.frozen? ⟨w.heap.size + 1 + 1 + 1, 0, none⟩ = false := by rw [← HW.out]; simp [go_sem]
  have hkl : W0.frozen? ⟨w.heap.size + 1 + 1 + 1, 1, none⟩ = false := by rw [← HW.out]; simp [go_sem]
  have h0 := Lib.hid (show Below w.heap.size w W0 by rw [← HW.out]; exact ((((Below.refl _ _).alloc (Nat.le_refl _) _).alloc (by simp) _).alloc (by simp; omega) _).alloc (by simp; omega) _)
  by_cases hb0 : b = 0
  · have hd : decide (b = 0) = true := decide_eq_true hb0
    have HB0 := Lib.hid hb0
    clear hb0
    go_enter Tryz.func75, Tryz.ntmps75
    go_wp2_with fail
    rw [HW.out]
    refine (zero_any b W0).mono ?_
    rintro e w1 ⟨rfl, hb⟩
    have hl1 := held W0 w1 hb
    have hl2 := heldf W0 w1 hb
    have HB := Lib.hid hb
    clear hb
    have hr0 := (hl1 _ 0 hzc).trans hke
    have hr1 := (hl1 _ 1 hzc).trans hkf
    have hr2 := (hl1 _ 0 hzd).trans hki
    have hr3 := (hl1 _ 1 hzd).trans hkj
    have hf0 := (hl2 _ 0 hzc).trans hkg
    have hf1 := (hl2 _ 1 hzc).trans hkh
    have hf2 := (hl2 _ 0 hzd).trans hkk
    have hf3 := (hl2 _ 1 hzd).trans hkl
    go_wp2_with fail
    exact bodyPost_ret (v := .tuple #[(Value.agg #[.int .u64 (lo (0)), .string (bg (0))]), (Value.agg #[.int .u64 (lo (0)), .string (bg (0))]), .bool false]) (by simp [results, Tryz.results75, go_sem, hr0, hr1, hr2, hr3, lo_small, bg_small]) rfl
      ⟨by rw [if_pos HB0.out], sc2 (sc2 (grow h0.out HB.out) (by show w.heap.size ≤ w.heap.size + 1 + 1; omega)) (by show w.heap.size ≤ w.heap.size + 1 + 1 + 1; omega)⟩
  · have hd : decide (b = 0) = false := decide_eq_false hb0
    have HB0 := Lib.hid hb0
    clear hb0
    by_cases hab : a < b
    · have hcm : decide (cmpI (a : Int) (b : Int) < 0) = true := decide_eq_true (by unfold cmpI; split <;> omega)
      have HAB := Lib.hid hab
      clear hab
      go_enter Tryz.func75, Tryz.ntmps75
      go_wp2_with fail
      rw [HW.out]
      refine (zero_any b W0).mono ?_
      rintro e w1 ⟨rfl, hb⟩
      have HB1 := Lib.hid hb
      have hk1 := held W0 w1 hb
      have q1 := (hk1 _ 0 hza).trans hka
      have q2 := (hk1 _ 1 hza).trans hkb
      have q3 := (hk1 _ 0 hzb).trans hkc
      have q4 := (hk1 _ 1 hzb).trans hkd
      clear hb hk1
      go_wp2_with fail
      refine (cmp_any a b w1 (by omega) (by omega)).mono ?_
      rintro e w2 ⟨rfl, hb⟩
      have HB := Lib.hid (grow HB1.out hb)
      have hl1 := held W0 w2 HB.out
      have hl2 := heldf W0 w2 HB.out
      clear hb
      have hr0 := (hl1 _ 0 hzc).trans hke
      have hr1 := (hl1 _ 1 hzc).trans hkf
      have hr2 := (hl1 _ 0 hzd).trans hki
      have hr3 := (hl1 _ 1 hzd).trans hkj
      have hf0 := (hl2 _ 0 hzc).trans hkg
      have hf1 := (hl2 _ 1 hzc).trans hkh
      have hf2 := (hl2 _ 0 hzd).trans hkk
      have hf3 := (hl2 _ 1 hzd).trans hkl
      have hq0 := (hl1 _ 0 hza).trans hka
      have hq1 := (hl1 _ 1 hza).trans hkb
      go_wp2_with fail
      go_region
      go_wp2
      exact bodyPost_ret (v := .tuple #[(Value.agg #[.int .u64 (lo (0)), .string (bg (0))]), (Value.agg #[.int .u64 (lo (a)), .string (bg (a))]), .bool true]) (by simp [results, Tryz.results75, go_sem, hr0, hr1, hr2, hr3, lo_small, bg_small]) rfl
        ⟨by rw [if_neg HB0.out, Nat.div_eq_of_lt HAB.out, Nat.mod_eq_of_lt HAB.out], (sc2 (sc2 (grow h0.out HB.out) (by show w.heap.size ≤ w.heap.size + 1 + 1; omega)) (by show w.heap.size ≤ w.heap.size + 1 + 1 + 1; omega)).drew⟩
    · have hcm : decide (cmpI (a : Int) (b : Int) < 0) = false := decide_eq_false (by unfold cmpI; split <;> omega)
      have HAB := Lib.hid hab
      by_cases hs : a < 18446744073709551616
      · have p1 : (bg a).toList.isEmpty = true := by rw [isEmpty_bg, decide_eq_true hs]
        have hbs : b < 18446744073709551616 := by omega
        have hz : (((lo b : Nat) : Int) == 0) = false := beq_eq_false_iff_ne.2 (by rw [lo_small hbs]; have := HB0.out; omega)
        have hz2 : (lo b : Int) ≠ 0 := by rw [lo_small hbs]; have := HB0.out; omega
        have hbp : (0 : Int) < ((lo b : Nat) : Int) := by rw [lo_small hbs]; have := HB0.out; omega
        have e1 : ((lo a : Nat) : Int) / ((lo b : Nat) : Int) = ((a / b : Nat) : Int) := by rw [lo_small hbs, lo_small hs]; simp
        have e2 : ((lo a : Nat) : Int) % ((lo b : Nat) : Int) = ((a % b : Nat) : Int) := by rw [lo_small hbs, lo_small hs]; simp
        have hdl : Hid (a / b < 18446744073709551616) := Nat.lt_of_le_of_lt (Nat.div_le_self _ _) hs
        have e1w : IntKind.u64.wrap (((lo a : Nat) : Int) / ((lo b : Nat) : Int)) = ((a / b : Nat) : Int) := by rw [e1, IntKind.wrap_u64]; have := hdl.out; generalize a / b = z at *; omega
        have E1 := Lib.hid e1w
        have E2 := Lib.hid e2
        have HSA := Lib.hid hs
        have hml : Hid (a % b < 18446744073709551616) := Nat.lt_of_le_of_lt (Nat.mod_le _ _) hs
        clear hs hbs hab e1 e2 e1w
        go_enter Tryz.func75, Tryz.ntmps75
        go_wp2_with fail
        rw [HW.out]
        refine (zero_any b W0).mono ?_
        rintro e w1 ⟨rfl, hb⟩
        have HB1 := Lib.hid hb
        have hk1 := held W0 w1 hb
        have q1 := (hk1 _ 0 hza).trans hka
        have q2 := (hk1 _ 1 hza).trans hkb
        have q3 := (hk1 _ 0 hzb).trans hkc
        have q4 := (hk1 _ 1 hzb).trans hkd
        clear hb hk1
        go_wp2_with fail
        refine (cmp_any a b w1 (by omega) (by omega)).mono ?_
        rintro e w2 ⟨rfl, hb⟩
        have HB := Lib.hid (grow HB1.out hb)
        have hl1 := held W0 w2 HB.out
        have hl2 := heldf W0 w2 HB.out
        clear hb q1 q2 q3 q4
        have hr0 := (hl1 _ 0 hzc).trans hke
        have hr1 := (hl1 _ 1 hzc).trans hkf
        have hr2 := (hl1 _ 0 hzd).trans hki
        have hr3 := (hl1 _ 1 hzd).trans hkj
        have hf0 := (hl2 _ 0 hzc).trans hkg
        have hf1 := (hl2 _ 1 hzc).trans hkh
        have hf2 := (hl2 _ 0 hzd).trans hkk
        have hf3 := (hl2 _ 1 hzd).trans hkl
        have q1 := (hl1 _ 0 hza).trans hka
        have q2 := (hl1 _ 1 hza).trans hkb
        have q3 := (hl1 _ 0 hzb).trans hkc
        have q4 := (hl1 _ 1 hzb).trans hkd
        go_wp2_with fail
        go_region
        rw [E1.out, E2.out]
        go_wp2
        exact bodyPost_ret (v := .tuple #[(Value.agg #[.int .u64 (lo (a / b)), .string (bg (a / b))]), (Value.agg #[.int .u64 (lo (a % b)), .string (bg (a % b))]), .bool true]) (by simp [results, Tryz.results75, go_sem, hr0, hr1, hr2, hr3, lo_small hdl.out, bg_small hdl.out, lo_small hml.out, bg_small hml.out]) rfl
          ⟨by rw [if_neg HB0.out], (sc2 (sc2 (grow h0.out HB.out) (by show w.heap.size ≤ w.heap.size + 1 + 1; omega)) (by show w.heap.size ≤ w.heap.size + 1 + 1 + 1; omega)).drew⟩
      · have p1 : (bg a).toList.isEmpty = false := by rw [isEmpty_bg, decide_eq_false hs]
        have HSA := Lib.hid hs
        clear hs hab
        go_enter Tryz.func75, Tryz.ntmps75
        go_wp2_with fail
        rw [HW.out]
        refine (zero_any b W0).mono ?_
        rintro e w1 ⟨rfl, hb⟩
        have HB1 := Lib.hid hb
        have hk1 := held W0 w1 hb
        have q1 := (hk1 _ 0 hza).trans hka
        have q2 := (hk1 _ 1 hza).trans hkb
        have q3 := (hk1 _ 0 hzb).trans hkc
        have q4 := (hk1 _ 1 hzb).trans hkd
        clear hb hk1
        go_wp2_with fail
        refine (cmp_any a b w1 (by omega) (by omega)).mono ?_
        rintro e w2 ⟨rfl, hb⟩
        have HB := Lib.hid (grow HB1.out hb)
        have hl1 := held W0 w2 HB.out
        clear hb q1 q2 q3 q4
        have q1 := (hl1 _ 0 hza).trans hka
        have q2 := (hl1 _ 1 hza).trans hkb
        have q3 := (hl1 _ 0 hzb).trans hkc
        have q4 := (hl1 _ 1 hzb).trans hkd
        go_wp2_with fail
        refine (words_any b w2 (by omega)).mono ?_
        rintro e w3 ⟨gy, cy, rfl, gy1, gy2, gy3, gy4, gy5⟩
        have HY1 := Lib.hid gy4
        have HY2 := Lib.hid gy5
        have hltw := gy4.lt
        have hw2w := gy5.size
        have HB3 := Lib.hid (grow HB.out gy5)
        clear hl1 q1 q2 q3 q4 gy3 gy4 gy5
        have hl1 := held W0 w3 HB3.out
        have q1 := (hl1 _ 0 hza).trans hka
        have q2 := (hl1 _ 1 hza).trans hkb
        have hca := gy1
        have haw : wl a ≤ 1099511627776 := by omega
        have hla := lt_bp_wl a
        have HLA := Lib.hid hla
        clear hla hl1
        by_cases hb1 : wl b = 1
        · have hw1 : (((wl b : Nat) : Int) == 1) = true := by rw [hb1]; rfl
          have hl0 : 0 < wl b := by omega
          have hyb : Hid (dg b 0 = b) := by
            show dg b 0 = b
            have h1 := lt_bp_wl b
            rw [hb1, bp_one] at h1
            unfold dg
            rw [bp_zero, Nat.div_one]
            exact Nat.mod_eq_of_lt h1
          clear hb1
          have hlaw := held w3
          have hza3 : w.heap.size < w3.heap.size := Nat.lt_of_lt_of_le hza HB3.out.size
          have q3 := HY1.out.cell (show 0 < cy by omega)
          have hdb := dg_lt b 0
          have hdb0 : 0 < dg b 0 := by rw [hyb.out]; have := HB0.out; omega
          go_wp2_with fail
          go_region_held3 (fun w' => Below w3.heap.size w3 w') (first | exact (Below.refl _ _).drew | assumption | exact grow (by assumption) (by assumption))
            (first
              | (go_at_call_of 81 (Value.agg #[.int .u64 (lo (a)), .string (bg (a))]); refine (words_any a _ haw).mono ?_; rintro e w4 ⟨gx, cx, rfl, gx1, gx2, gx3, gx4, gx5⟩; have HX1 := Lib.hid gx4; have hltx := gx4.lt; clear gx3 gx4)
              | (go_at_call_of 101 (Value.slice (some ⟨gx, 0, none⟩) (wl a) cx); refine (short_any a (dg b 0) gx cx (wl a) _ haw (fun i hi => HX1.out.cell (by omega)) hltx HLA.out hdb0 hdb).mono ?_; rintro e w5 ⟨gq, rfl, gq1, gq2, gq3⟩; have HQ1 := Lib.hid gq2; have hltq := gq2.lt; clear gq2))
          have HB5 : Hid (Below w3.heap.size w3 w5) := by assumption
          have hrem : ((a : Nat) : Int) % ((dg b 0 : Nat) : Int) = ((a % b : Nat) : Int) := by rw [hyb.out]; simp
          rw [hrem]
          rw [hyb.out] at HQ1
          have HRE := Lib.hid hrem
          have hqv : Hid (vl (dg (a / b)) (wl a) = a / b) := vl_dg_of_lt (Nat.lt_of_le_of_lt (Nat.div_le_self _ _) HLA.out)
          have hrl : a % b < 4294967296 := by
            have := Nat.mod_lt a (show 0 < b by have := HB0.out; omega)
            rw [hyb.out] at hdb
            omega
          obtain ⟨r, HR⟩ : ∃ r, Hid (a % b = r) := ⟨_, Lib.hid rfl⟩
          rw [HR.out] at hrl
          rw [HR.out]
          clear hrem hlaw hza3 q1 q2 q3
          have hrle : (r : Int) < 18446744073709551616 := by omega
          have HB6 := Lib.hid (grow HB3.out HB5.out)
          go_wp2_with fail
          refine (of_any gq (wl a) (wl a) (dg (a / b)) w5 (Nat.le_refl _) (by omega) haw (fun i hi => HQ1.out.cell hi) hltq (fun i _ => dg_lt _ i)).mono ?_
          rintro e w6 ⟨rfl, hb6⟩
          rw [hqv.out]
          have HB9 := Lib.hid (grow HB6.out hb6)
          clear hb6
          have hlw := held W0 w6 HB9.out
          have hlf := heldf W0 w6 HB9.out
          have hr0 := (hlw _ 0 hzc).trans hke
          have hr1 := (hlw _ 1 hzc).trans hkf
          have hr2 := (hlw _ 0 hzd).trans hki
          have hr3 := (hlw _ 1 hzd).trans hkj
          have hf0 := (hlf _ 0 hzc).trans hkg
          have hf1 := (hlf _ 1 hzc).trans hkh
          have hf2 := (hlf _ 0 hzd).trans hkk
          have hf3 := (hlf _ 1 hzd).trans hkl
          go_wp2_with fail
          exact bodyPost_ret (v := .tuple #[(Value.agg #[.int .u64 (lo (a / b)), .string (bg (a / b))]), (Value.agg #[.int .u64 (lo (r)), .string (bg (r))]), .bool true]) (by simp [results, Tryz.results75, go_sem, hr0, hr1, hr2, hr3, lo_small (show r < 18446744073709551616 by omega), bg_small (show r < 18446744073709551616 by omega)]) rfl
            ⟨by rw [if_neg HB0.out, HR.out], sc2 (sc2 (grow h0.out HB9.out) (by show w.heap.size ≤ w.heap.size + 1 + 1; omega)) (by show w.heap.size ≤ w.heap.size + 1 + 1 + 1; omega)⟩
        · have hw1 : (((wl b : Nat) : Int) == 1) = false := beq_eq_false_iff_ne.2 (by omega)
          have hb2 : 2 ≤ wl b := by
            have := wl_pos (show 0 < b by have := HB0.out; omega)
            omega
          obtain ⟨m, hm⟩ : ∃ m, wl a = wl b + m := ⟨wl a - wl b, by have := wl_mono (show b ≤ a by have := HAB.out; omega); omega⟩
          clear hb1
          go_wp2_with fail
          refine (words_any a w3 haw).mono ?_
          rintro e w4 ⟨gx, cx, rfl, gx1, gx2, gx3, gx4, gx5⟩
          have HX1 := Lib.hid gx4
          have HY3 := Lib.hid (HY1.out.below gx5 hltw)
          have hlt4 := gx5.size
          have HB4 := Lib.hid (grow HB3.out gx5)
          have hltx := gx4.lt
          clear gx3 gx4 gx5 q1 q2
          go_wp2_with fail
          have hlong := long_any a b (wl b) m gx cx gy cy w4 rfl hm (by omega) hb2 (fun i hi => HX1.out.cell (by omega)) hltx (fun i hi => HY3.out.cell (by omega)) (by omega)
          refine hlong.mono ?_
          rintro e w5 ⟨gq, gu, rfl, k1, k2, k3⟩
          have K1 := Lib.hid k1
          have K2 := Lib.hid k2
          have hltq := k1.lt
          have hltu := k2.lt
          have HB5 := Lib.hid (grow HB4.out k3)
          have hab1 : a / b < bp (m + 1) := by
            refine Nat.div_lt_of_lt_mul ?_
            have h1 : bp (wl b - 1) ≤ b := lt_wl.1 (by omega)
            have h2 := HLA.out
            have h3 : bp (wl b - 1) * bp (m + 1) ≤ b * bp (m + 1) := Nat.mul_le_mul_right _ h1
            rw [← bp_add, show wl b - 1 + (m + 1) = wl b + m by omega, ← hm] at h3
            omega
          have hab2 : a % b < bp (wl b + m + 1) := by
            have h1 := Nat.mod_lt a (show 0 < b by have := HB0.out; omega)
            have h2 := lt_bp_wl b
            have h3 : bp (wl b) ≤ bp (wl b + m + 1) := bp_le (by omega)
            omega
          have V1 := Lib.hid (vl_dg_of_lt hab1)
          have V2 := Lib.hid (vl_dg_of_lt hab2)
          clear k1 k2 k3 hlong hab1 hab2
          go_wp2_with fail
          refine (of_any gq (m + 1) (m + 1) (dg (a / b)) w5 (Nat.le_refl _) (by omega) (by omega) (fun i hi => K1.out.cell hi) hltq (fun i _ => dg_lt _ i)).mono ?_
          rintro e w6 ⟨rfl, hb6⟩
          rw [V1.out]
          have K3 := Lib.hid (K2.out.below hb6 hltu)
          have hlt6 := hb6.size
          have HB6 := Lib.hid (grow HB5.out hb6)
          clear hb6
          go_wp2_with fail
          refine (of_any gu (wl b + m + 1) (wl b + m + 1) (dg (a % b)) w6 (Nat.le_refl _) (by omega) (by omega) (fun i hi => K3.out.cell hi) (by omega) (fun i _ => dg_lt _ i)).mono ?_
          rintro e w7 ⟨rfl, hb7⟩
          rw [V2.out]
          have HB9 := Lib.hid (grow HB6.out hb7)
          clear hb7
          have hlw := held W0 w7 HB9.out
          have hlf := heldf W0 w7 HB9.out
          have hr0 := (hlw _ 0 hzc).trans hke
          have hr1 := (hlw _ 1 hzc).trans hkf
          have hr2 := (hlw _ 0 hzd).trans hki
          have hr3 := (hlw _ 1 hzd).trans hkj
          have hf0 := (hlf _ 0 hzc).trans hkg
          have hf1 := (hlf _ 1 hzc).trans hkh
          have hf2 := (hlf _ 0 hzd).trans hkk
          have hf3 := (hlf _ 1 hzd).trans hkl
          go_wp2_with fail
          exact bodyPost_ret (v := .tuple #[(Value.agg #[.int .u64 (lo (a / b)), .string (bg (a / b))]), (Value.agg #[.int .u64 (lo (a % b)), .string (bg (a % b))]), .bool true]) (by simp [results, Tryz.results75, go_sem, hr0, hr1, hr2, hr3]) rfl
            ⟨by rw [if_neg HB0.out], sc2 (sc2 (grow h0.out HB9.out) (by show w.heap.size ≤ w.heap.size + 1 + 1; omega)) (by show w.heap.size ≤ w.heap.size + 1 + 1 + 1; omega)⟩
end Go.Proofs.YtenpbnmmadbkdaaGreat


/- nats.Gcd. -/
namespace Go.Proofs.YtenpbnmmadbkdaaGreat
open Go.RowKit

/-- the two numbers in their boxes, and the result's box -/
structure GcdRow (s x y : Nat) (wr : World) : Prop where
  x0 : wr.cell? ⟨s, 0, none⟩ = some (.int .u64 ((lo x : Nat) : Int))
  x1 : wr.cell? ⟨s, 1, none⟩ = some (.string (bg x))
  y0 : wr.cell? ⟨s + 1, 0, none⟩ = some (.int .u64 ((lo y : Nat) : Int))
  y1 : wr.cell? ⟨s + 1, 1, none⟩ = some (.string (bg y))
  r0 : wr.cell? ⟨s + 1 + 1, 0, none⟩ = some (.int .u64 0)
  r1 : wr.cell? ⟨s + 1 + 1, 1, none⟩ = some (.string ⟨#[]⟩)
  fx0 : wr.frozen? ⟨s, 0, none⟩ = false
  fx1 : wr.frozen? ⟨s, 1, none⟩ = false
  fy0 : wr.frozen? ⟨s + 1, 0, none⟩ = false
  fy1 : wr.frozen? ⟨s + 1, 1, none⟩ = false
  fr0 : wr.frozen? ⟨s + 1 + 1, 0, none⟩ = false
  fr1 : wr.frozen? ⟨s + 1 + 1, 1, none⟩ = false
  size : s + 1 + 1 < wr.heap.size

theorem GcdRow.grow {s x y : Nat} {wr w' : World} (h : GcdRow s x y wr) (hb : Below wr.heap.size wr w') : GcdRow s x y w' := by
  have h1 := held wr w' hb
  have h2 := heldf wr w' hb
  have hs := h.size
  have hs2 := hb.size
  exact ⟨(h1 _ _ (by omega)).trans h.x0, (h1 _ _ (by omega)).trans h.x1, (h1 _ _ (by omega)).trans h.y0, (h1 _ _ (by omega)).trans h.y1, (h1 _ _ (by omega)).trans h.r0, (h1 _ _ (by omega)).trans h.r1,
    (h2 _ _ (by omega)).trans h.fx0, (h2 _ _ (by omega)).trans h.fx1, (h2 _ _ (by omega)).trans h.fy0, (h2 _ _ (by omega)).trans h.fy1, (h2 _ _ (by omega)).trans h.fr0, (h2 _ _ (by omega)).trans h.fr1, by omega⟩

theorem GcdRow.set {s x y z : Nat} {W : World} (h : GcdRow s x y W) : GcdRow s y z ((((W.setCell ⟨s, 0, none⟩ (.int .u64 ((lo y : Nat) : Int))).setCell ⟨s, 1, none⟩ (.string (bg y))).setCell ⟨s + 1, 0, none⟩ (.int .u64 ((lo z : Nat) : Int))).setCell ⟨s + 1, 1, none⟩ (.string (bg z))).drew := by
  obtain ⟨x0, x1, y0, y1, r0, r1, fx0, fx1, fy0, fy1, fr0, fr1, hs⟩ := h
  constructor <;> simp [go_sem, x0, x1, y0, y1, r0, r1, fx0, fx1, fy0, fy1, fr0, fr1, hs]

set_option maxHeartbeats 1000000 in
set_option maxRecDepth 100000 in
theorem gcd_any (a b : Nat) (w : World) (ha : wl a ≤ 549755813888) (hb : wl b ≤ 549755813888) :
    Calls Tryz.prog 73 #[(Value.agg #[.int .u64 (lo (a)), .string (bg (a))]), (Value.agg #[.int .u64 (lo (b)), .string (bg (b))])] w fun e w' => e = .returned (Value.agg #[.int .u64 (lo (Nat.gcd a b)), .string (bg (Nat.gcd a b))]) ∧ Below w.heap.size w w' := by
  obtain ⟨W0, HW⟩ : ∃ W0, Hid (((w.alloc (.cells #[.int .u64 ((lo a : Nat) : Int), .string (bg a)] 30)).alloc (.cells #[.int .u64 ((lo b : Nat) : Int), .string (bg b)] 30)).alloc (.cells #[.int .u64 0, .string ⟨#[]⟩] 30) = W0) := ⟨_, Lib.hid rfl⟩
  have HR0 : GcdRow w.heap.size a b W0 := by
    rw [← HW.out]
    constructor <;> simp [go_sem]
  have h0 := Lib.hid (show Below w.heap.size w W0 by rw [← HW.out]; exact (((Below.refl _ _).alloc (Nat.le_refl _) _).alloc (by simp) _).alloc (by simp; omega) _)
  go_enter Tryz.func73, Tryz.ntmps73
  go_wp2_with fail
  rw [HW.out]
  go_loopg [] b (fun k wr => ∃ x, Nat.gcd x k = Nat.gcd a b ∧ wl x ≤ 549755813888 ∧ wl k ≤ 549755813888 ∧ GcdRow w.heap.size x k wr ∧ Below w.heap.size w wr)
  case atStart => exact ⟨a, rfl, ha, hb, HR0, h0.out⟩
  case round =>
    obtain ⟨x, hg, hx, hk, hrow, hbel⟩ := hrel
    have HG := Lib.hid hg
    have HB := Lib.hid hbel
    have q1 := hrow.y0
    have q2 := hrow.y1
    clear hg hbel HR0 h0 HW
    by_cases hk0 : gk = 0
    · subst hk0
      have hd : decide ((0 : Nat) = 0) = true := rfl
      go_wp2_with fail
      refine (zero_any 0 wr).mono ?_
      rintro e w1 ⟨rfl, hb1⟩
      obtain ⟨x0, x1, y0, y1, r0, r1, fx0, fx1, fy0, fy1, fr0, fr1, hsz⟩ := hrow.grow hb1
      have HB1 := Lib.hid (hb1.mono (show w.heap.size ≤ wr.heap.size by have := hrow.size; omega))
      clear hrow hb1 q1 q2
      go_wp2_with fail
      have hgx : x = Nat.gcd a b := by rw [← HG.out]; exact (Nat.gcd_zero_right x).symm
      exact bodyPost_ret (v := (Value.agg #[.int .u64 (lo (x)), .string (bg (x))])) (by simp [results, Tryz.results73, go_sem, r0, r1]) rfl
        ⟨by rw [hgx], sc2 (HB.out.trans HB1.out) (by show w.heap.size ≤ w.heap.size + 1 + 1; omega)⟩
    · have hd : decide (gk = 0) = false := decide_eq_false hk0
      have hsz := hrow.size
      go_wp2_with fail
      refine (zero_any gk wr).mono ?_
      rintro e w1 ⟨rfl, hb1⟩
      have hrow1 := hrow.grow hb1
      have HB1 := Lib.hid hb1
      have p1 := hrow1.x0
      have p2 := hrow1.x1
      have p3 := hrow1.y0
      have p4 := hrow1.y1
      clear hb1 q1 q2
      go_wp2_with fail
      refine (div_any x gk w1 hx hk).mono ?_
      rintro e w2 ⟨he, hb2⟩
      rw [if_neg hk0] at he
      subst he
      have hrow2 := hrow1.grow hb2
      have HB2 := Lib.hid (grow HB1.out hb2)
      clear hb2 p1 p2 p3 p4
      go_wp2_with fail
      obtain ⟨W3, HW3⟩ : ∃ W3, Hid ((w2.alloc (.cells #[.int .u64 (lo (x / gk)), .string (bg (x / gk))] 30)).alloc (.cells #[.int .u64 (lo (x % gk)), .string (bg (x % gk))] 30) = W3) := ⟨_, Lib.hid rfl⟩
      have hB3 : Below w2.heap.size w2 W3 := by rw [← HW3.out]; exact ((Below.refl _ _).alloc (Nat.le_refl _) _).alloc (by simp) _
      have m0 : W3.cell? ⟨w2.heap.size + 1, 0, none⟩ = some (.int .u64 (lo (x % gk))) := by rw [← HW3.out]; simp [go_sem]
      have m1 : W3.cell? ⟨w2.heap.size + 1, 1, none⟩ = some (.string (bg (x % gk))) := by rw [← HW3.out]; simp [go_sem]
      rw [HW3.out]
      have hne : w2.heap.size + 1 ≠ w.heap.size := by have := hrow2.size; omega
      have hne2 : w2.heap.size ≠ w.heap.size := by have := hrow2.size; omega
      obtain ⟨x0, x1, y0, y1, r0, r1, fx0, fx1, fy0, fy1, fr0, fr1, hsz3⟩ := hrow2.grow hB3
      have HB3 := Lib.hid (grow HB2.out hB3)
      have HROW := Lib.hid (GcdRow.set (z := x % gk) (hrow2.grow hB3))
      clear hrow hrow1 hrow2 hB3 HW3
      go_region
      all_goals
        go_wp2_with fail
        go_roundg (x % gk)
        case measure => exact Nat.mod_lt _ (by omega)
        case rel =>
          have hmx : wl (x % gk) ≤ 549755813888 := Nat.le_trans (wl_mono (Nat.le_of_lt (Nat.mod_lt x (show 0 < gk by omega)))) hk
          refine ⟨gk, ?_, hk, hmx, HROW.out, ?_⟩
          · rw [Nat.gcd_comm, ← Nat.gcd_rec, Nat.gcd_comm]
            exact HG.out
          · exact (sc2 (((HB.out.trans (HB3.out.mono (by omega))).setCell (Nat.le_refl _) _).setCell (Nat.le_refl _) _) (by show w.heap.size ≤ w.heap.size + 1; omega)).drew
end Go.Proofs.YtenpbnmmadbkdaaGreat


/- ints: From, Of, Abs, Sign, Neg: what they return. -/
namespace Go.Proofs.YtenpbnmmadbkdaaGreat
open Go.RowKit
attribute [local go_sem ↓] Go.wp_at_zero Go.wp_at_succ

theorem eq_size_zero (d m : Nat) (w : World) : (Op.equalIn (d + 3) 32 (Value.agg #[.int .u64 (lo (m)), .string (bg (m))]) (Value.agg #[.int .u64 0, .string ⟨#[]⟩])).run Tryz.prog w = .ok (decide (m = 0)) w := by
  simp [go_sem, eq_nat_zero]
  by_cases h0 : m = 0 <;> simp [h0]

attribute [local go_sem ↓] eq_size_zero
/-- size.zero -/
theorem szero_any (n : Nat) (w : World) :
    Calls Tryz.prog 60 #[(Value.agg #[.int .u64 (lo (n)), .string (bg (n))])] w fun e w' => e = .returned (.bool (decide (n = 0))) ∧ Below w.heap.size w w' := by
  go_enter Tryz.func60, Tryz.ntmps60
  go_wp2
  go_ret
  exact ⟨rfl, (Below.refl _ _).alloc (Nat.le_refl _) _⟩

theorem from_raw (s : Bool) (n : Nat) (w : World) :
    Calls Tryz.prog 78 #[.bool s, (Value.agg #[.int .u64 (lo (n)), .string (bg (n))])] w fun e w' => e = .returned (.agg #[.int .u64 (lo (n)), .string (bg (n)), .bool (s && !decide (n = 0))]) ∧ Below w.heap.size w w' := by
  obtain ⟨W0, HW⟩ : ∃ W0, Hid (((w.alloc (.cells #[.int .u64 ((lo n : Nat) : Int), .string (bg n)] 30)).alloc (.cells #[.int .u64 0, .string ⟨#[]⟩, .bool false] 34)).alloc (.cells #[.int .u64 ((lo n : Nat) : Int), .string (bg n)] 32) = W0) := ⟨_, Lib.hid rfl⟩
  have HS := Lib.hid (show w.heap.size + 3 = W0.heap.size by rw [← HW.out]; simp)
  have hza : w.heap.size + 1 < W0.heap.size := by rw [← HS.out]; omega
  have hzb : w.heap.size + 1 + 1 < W0.heap.size := by rw [← HS.out]; omega
  have hka : W0.cell? ⟨w.heap.size + 1 + 1, 0, none⟩ = some (.int .u64 ((lo n : Nat) : Int)) := by rw [← HW.out]; simp [go_sem]
  have hkb : W0.cell? ⟨w.heap.size + 1 + 1, 1, none⟩ = some (.string (bg n)) := by rw [← HW.out]; simp [go_sem]
  have hkc : W0.cell? ⟨w.heap.size + 1, 0, none⟩ = some (.int .u64 0) := by rw [← HW.out]; simp [go_sem]
  have hkd : W0.cell? ⟨w.heap.size + 1, 1, none⟩ = some (.string ⟨#[]⟩) := by rw [← HW.out]; simp [go_sem]
  have hke : W0.cell? ⟨w.heap.size + 1, 2, none⟩ = some (.bool false) := by rw [← HW.out]; simp [go_sem]
  have hkf : W0.frozen? ⟨w.heap.size + 1, 0, none⟩ = false := by rw [← HW.out]; simp [go_sem]
  have hkg : W0.frozen? ⟨w.heap.size + 1, 1, none⟩ = false := by rw [← HW.out]; simp [go_sem]
  have hkh : W0.frozen? ⟨w.heap.size + 1, 2, none⟩ = false := by rw [← HW.out]; simp [go_sem]
  have h0 := Lib.hid (show Below w.heap.size w W0 by rw [← HW.out]; exact (((Below.refl _ _).alloc (Nat.le_refl _) _).alloc (by simp) _).alloc (by simp; omega) _)
  have hlaw := held W0
  have hlf := heldf W0
  have hR : ∀ w1 : World, Below W0.heap.size W0 w1 → w1.cell? ⟨w.heap.size + 1 + 1, 0, none⟩ = some (.int .u64 ((lo n : Nat) : Int)) ∧ w1.cell? ⟨w.heap.size + 1 + 1, 1, none⟩ = some (.string (bg n)) ∧
      w1.cell? ⟨w.heap.size + 1, 0, none⟩ = some (.int .u64 0) ∧ w1.cell? ⟨w.heap.size + 1, 1, none⟩ = some (.string ⟨#[]⟩) ∧ w1.cell? ⟨w.heap.size + 1, 2, none⟩ = some (.bool false) ∧
      w1.frozen? ⟨w.heap.size + 1, 0, none⟩ = false ∧ w1.frozen? ⟨w.heap.size + 1, 1, none⟩ = false ∧ w1.frozen? ⟨w.heap.size + 1, 2, none⟩ = false ∧ Below w.heap.size w w1 := fun w1 hb =>
    ⟨(hlaw w1 hb _ _ hzb).trans hka, (hlaw w1 hb _ _ hzb).trans hkb, (hlaw w1 hb _ _ hza).trans hkc, (hlaw w1 hb _ _ hza).trans hkd, (hlaw w1 hb _ _ hza).trans hke,
      (hlf w1 hb _ _ hza).trans hkf, (hlf w1 hb _ _ hza).trans hkg, (hlf w1 hb _ _ hza).trans hkh, grow h0.out hb⟩
  have HR := Lib.hid hR
  clear hlaw hlf hR
  cases s
  · go_enter Tryz.func78, Tryz.ntmps78
    go_wp2_with fail
    rw [HW.out]
    go_region
    go_wp2
    exact bodyPost_ret (v := .agg #[.int .u64 (lo (n)), .string (bg (n)), .bool false]) (by simp [results, Tryz.results78, go_sem, hkc, hkd, hke]) rfl
      ⟨by rw [Bool.false_and], (sc2 (h0.out.setCell (by show w.heap.size ≤ w.heap.size + 1; omega) _) (by show w.heap.size ≤ w.heap.size + 1; omega)).drew⟩
  · go_enter Tryz.func78, Tryz.ntmps78
    go_wp2_with fail
    rw [HW.out]
    go_region_with (first | (go_at_call_of 60 (Value.agg #[.int .u64 (lo (n)), .string (bg (n))]); refine (szero_any n _).mono ?_; rintro e w1 ⟨rfl, hb1⟩; obtain ⟨q1, q2, q3, q4, q5, q6, q7, q8, q9⟩ := HR.out w1 (((Below.refl _ _).drew).trans hb1); have Q9 := Lib.hid q9; clear hb1 q9))
    all_goals
      go_wp2
      exact bodyPost_ret (v := .agg #[.int .u64 (lo (n)), .string (bg (n)), .bool (!decide (n = 0))]) (by simp [results, Tryz.results78, go_sem, q3, q4, q5]) rfl
        ⟨by rw [Bool.true_and], sc2 (Q9.out.setCell (by show w.heap.size ≤ w.heap.size + 1; omega) _) (by show w.heap.size ≤ w.heap.size + 1; omega)⟩

theorem int_fields (s : Bool) (n : Nat) : (Value.agg #[.int .u64 (lo (n)), .string (bg (n)), .bool (s && !decide (n = 0))]) = (Value.agg #[.int .u64 ((lo (Int.natAbs ((if s then -(n : Int) else (n : Int)))) : Nat) : Int), .string (bg (Int.natAbs ((if s then -(n : Int) else (n : Int))))), .bool (decide (((if s then -(n : Int) else (n : Int))) < 0))]) := by
  cases s
  · have h : ¬ ((n : Int) < 0) := by omega
    simp [h]
  · by_cases h : n = 0
    · simp [h]
    · have h1 : 0 < n := by omega
      simp [h, h1]
theorem from_any (s : Bool) (n : Nat) (z : Int) (w : World) (hz : (if s then -(n : Int) else (n : Int)) = z) :
    Calls Tryz.prog 78 #[.bool s, (Value.agg #[.int .u64 (lo (n)), .string (bg (n))])] w fun e w' => e = .returned (Value.agg #[.int .u64 (lo (Int.natAbs (z))), .string (bg (Int.natAbs (z))), .bool (decide ((z) < 0))]) ∧ Below w.heap.size w w' := by
  subst hz
  rw [← int_fields]
  exact from_raw s n w
end Go.Proofs.YtenpbnmmadbkdaaGreat


/- ints: Of, Abs, Sign, Neg, plus, times, told, Add, Sub, Mul, Cmp: what they return. -/
namespace Go.Proofs.YtenpbnmmadbkdaaGreat
open Go.RowKit

theorem heldat (B : Nat) (W0 : World) : ∀ w' : World, Below B W0 w' → ∀ b o, b < B → w'.cell? ⟨b, o, none⟩ = W0.cell? ⟨b, o, none⟩ := fun _ h b o hb => h.cell (p := ⟨b, o, none⟩) hb

theorem neg_any (a : Int) (w : World) :
    Calls Tryz.prog 88 #[(Value.agg #[.int .u64 (lo (Int.natAbs (a))), .string (bg (Int.natAbs (a))), .bool (decide ((a) < 0))])] w fun e w' => e = .returned (Value.agg #[.int .u64 (lo (Int.natAbs (-a))), .string (bg (Int.natAbs (-a))), .bool (decide ((-a) < 0))]) ∧ Below w.heap.size w w' := by
  obtain ⟨W0, HW⟩ : ∃ W0, Hid (((w.alloc (.cells #[.int .u64 (lo (Int.natAbs (a))), .string (bg (Int.natAbs (a))), .bool (decide ((a) < 0))] 34)).alloc (.cells #[.int .u64 0, .string ⟨#[]⟩, .bool false] 34)) = W0) := ⟨_, Lib.hid rfl⟩
  have HS := Lib.hid (show w.heap.size + 2 = W0.heap.size by rw [← HW.out]; simp)
  have z0 : w.heap.size < W0.heap.size := by rw [← HS.out]; omega
  have z1 : w.heap.size + 1 < W0.heap.size := by rw [← HS.out]; omega
  have c0_0 : W0.cell? ⟨w.heap.size, 0, none⟩ = some (.int .u64 (lo (Int.natAbs (a)))) := by rw [← HW.out]; simp [go_sem]
  have c0_1 : W0.cell? ⟨w.heap.size, 1, none⟩ = some (.string (bg (Int.natAbs (a)))) := by rw [← HW.out]; simp [go_sem]
  have c0_2 : W0.cell? ⟨w.heap.size, 2, none⟩ = some (.bool (decide ((a) < 0))) := by rw [← HW.out]; simp [go_sem]
  have c1_0 : W0.cell? ⟨w.heap.size + 1, 0, none⟩ = some (.int .u64 0) := by rw [← HW.out]; simp [go_sem]
  have c1_1 : W0.cell? ⟨w.heap.size + 1, 1, none⟩ = some (.string ⟨#[]⟩) := by rw [← HW.out]; simp [go_sem]
  have c1_2 : W0.cell? ⟨w.heap.size + 1, 2, none⟩ = some (.bool false) := by rw [← HW.out]; simp [go_sem]
  have f_0 : W0.frozen? ⟨w.heap.size + 1, 0, none⟩ = false := by rw [← HW.out]; simp [go_sem]
  have f_1 : W0.frozen? ⟨w.heap.size + 1, 1, none⟩ = false := by rw [← HW.out]; simp [go_sem]
  have f_2 : W0.frozen? ⟨w.heap.size + 1, 2, none⟩ = false := by rw [← HW.out]; simp [go_sem]
  have hbw : Below w.heap.size w W0 := by rw [← HW.out]; exact ((Below.refl _ _).alloc (Nat.le_refl _) _).alloc (by simp) _
  have HR : Hid (∀ w1 : World, Below W0.heap.size W0 w1 → w1.cell? ⟨w.heap.size, 0, none⟩ = some (.int .u64 (lo (Int.natAbs (a)))) ∧ w1.cell? ⟨w.heap.size, 1, none⟩ = some (.string (bg (Int.natAbs (a)))) ∧ w1.cell? ⟨w.heap.size, 2, none⟩ = some (.bool (decide ((a) < 0))) ∧ w1.cell? ⟨w.heap.size + 1, 0, none⟩ = some (.int .u64 0) ∧ w1.cell? ⟨w.heap.size + 1, 1, none⟩ = some (.string ⟨#[]⟩) ∧ w1.cell? ⟨w.heap.size + 1, 2, none⟩ = some (.bool false) ∧ w1.frozen? ⟨w.heap.size + 1, 0, none⟩ = false ∧ w1.frozen? ⟨w.heap.size + 1, 1, none⟩ = false ∧ w1.frozen? ⟨w.heap.size + 1, 2, none⟩ = false ∧ Below w.heap.size w w1) := fun w1 hb => ⟨(held W0 w1 hb _ _ z0).trans c0_0, (held W0 w1 hb _ _ z0).trans c0_1, (held W0 w1 hb _ _ z0).trans c0_2, (held W0 w1 hb _ _ z1).trans c1_0, (held W0 w1 hb _ _ z1).trans c1_1, (held W0 w1 hb _ _ z1).trans c1_2, (heldf W0 w1 hb _ _ z1).trans f_0, (heldf W0 w1 hb _ _ z1).trans f_1, (heldf W0 w1 hb _ _ z1).trans f_2, grow hbw hb⟩
  have HBW := Lib.hid hbw
  clear hbw
  have hz : (if !decide (a < 0) then -((a.natAbs : Nat) : Int) else ((a.natAbs : Nat) : Int)) = -a := by
    by_cases h : a < 0 <;> simp [h] <;> omega
  have HZ := Lib.hid hz
  clear hz
  go_enter Tryz.func88, Tryz.ntmps88
  go_wp2_with fail
  rw [HW.out]
  refine (from_any (!decide (a < 0)) a.natAbs (-a) W0 HZ.out).mono ?_
  rintro e w1 ⟨rfl, hb1⟩
  clear c0_0 c0_1 c0_2 c1_0 c1_1 c1_2 f_0 f_1 f_2 HBW; obtain ⟨c0_0, c0_1, c0_2, c1_0, c1_1, c1_2, f_0, f_1, f_2, hbw⟩ := HR.out w1 (hb1); have HBW := Lib.hid hbw; clear hbw
  go_wp2_with fail
  exact bodyPost_ret (v := (Value.agg #[.int .u64 (lo (Int.natAbs (-a))), .string (bg (Int.natAbs (-a))), .bool (decide ((-a) < 0))])) (by simp [results, Tryz.results88, go_sem, c1_0, c1_1, c1_2]) rfl ⟨rfl, by first | exact sc3 (HBW.out) (by show w.heap.size ≤ w.heap.size + 1; omega) | exact (sc3 (HBW.out) (by show w.heap.size ≤ w.heap.size + 1; omega)).drew⟩

theorem abs_any (a : Int) (w : World) :
    Calls Tryz.prog 74 #[(Value.agg #[.int .u64 (lo (Int.natAbs (a))), .string (bg (Int.natAbs (a))), .bool (decide ((a) < 0))])] w fun e w' => e = .returned (Value.agg #[.int .u64 (lo a.natAbs), .string (bg a.natAbs)]) ∧ Below w.heap.size w w' := by
  go_enter Tryz.func74, Tryz.ntmps74
  go_wp2
  exact bodyPost_ret (v := (Value.agg #[.int .u64 (lo a.natAbs), .string (bg a.natAbs)])) (by simp [results, Tryz.results74, go_sem]) rfl ⟨rfl, ((Below.refl _ _).alloc (Nat.le_refl _) _).alloc (by simp) _⟩

/-- the sign of an integer -/
def sgI (a : Int) : Int := if a = 0 then 0 else if a < 0 then -1 else 1

theorem sign_int (a : Int) (w : World) :
    Calls Tryz.prog 35 #[(Value.agg #[.int .u64 (lo (Int.natAbs (a))), .string (bg (Int.natAbs (a))), .bool (decide ((a) < 0))])] w fun e w' => e = .returned (.int .i64 (sgI a)) ∧ Below w.heap.size w w' := by
  obtain ⟨W0, HW⟩ : ∃ W0, Hid ((w.alloc (.cells #[.int .u64 (lo (Int.natAbs (a))), .string (bg (Int.natAbs (a))), .bool (decide ((a) < 0))] 34)) = W0) := ⟨_, Lib.hid rfl⟩
  have HS := Lib.hid (show w.heap.size + 1 = W0.heap.size by rw [← HW.out]; simp)
  have z0 : w.heap.size < W0.heap.size := by rw [← HS.out]; omega
  have c0_0 : W0.cell? ⟨w.heap.size, 0, none⟩ = some (.int .u64 (lo (Int.natAbs (a)))) := by rw [← HW.out]; simp [go_sem]
  have c0_1 : W0.cell? ⟨w.heap.size, 1, none⟩ = some (.string (bg (Int.natAbs (a)))) := by rw [← HW.out]; simp [go_sem]
  have c0_2 : W0.cell? ⟨w.heap.size, 2, none⟩ = some (.bool (decide ((a) < 0))) := by rw [← HW.out]; simp [go_sem]
  have f_0 : W0.frozen? ⟨w.heap.size, 0, none⟩ = false := by rw [← HW.out]; simp [go_sem]
  have f_1 : W0.frozen? ⟨w.heap.size, 1, none⟩ = false := by rw [← HW.out]; simp [go_sem]
  have f_2 : W0.frozen? ⟨w.heap.size, 2, none⟩ = false := by rw [← HW.out]; simp [go_sem]
  have hbw : Below w.heap.size w W0 := by rw [← HW.out]; exact (Below.refl _ _).alloc (Nat.le_refl _) _
  have HR : Hid (∀ w1 : World, Below W0.heap.size W0 w1 → w1.cell? ⟨w.heap.size, 0, none⟩ = some (.int .u64 (lo (Int.natAbs (a)))) ∧ w1.cell? ⟨w.heap.size, 1, none⟩ = some (.string (bg (Int.natAbs (a)))) ∧ w1.cell? ⟨w.heap.size, 2, none⟩ = some (.bool (decide ((a) < 0))) ∧ w1.frozen? ⟨w.heap.size, 0, none⟩ = false ∧ w1.frozen? ⟨w.heap.size, 1, none⟩ = false ∧ w1.frozen? ⟨w.heap.size, 2, none⟩ = false ∧ Below w.heap.size w w1) := fun w1 hb => ⟨(held W0 w1 hb _ _ z0).trans c0_0, (held W0 w1 hb _ _ z0).trans c0_1, (held W0 w1 hb _ _ z0).trans c0_2, (heldf W0 w1 hb _ _ z0).trans f_0, (heldf W0 w1 hb _ _ z0).trans f_1, (heldf W0 w1 hb _ _ z0).trans f_2, grow hbw hb⟩
  have HBW := Lib.hid hbw
  clear hbw
  by_cases h0 : a = 0
  · have hd : decide (a = 0) = true := decide_eq_true h0
    have HSG : Hid (sgI a = 0) := if_pos h0
    clear h0
    go_enter Tryz.func35, Tryz.ntmps35
    go_wp2_with fail
    rw [HW.out]
    refine (szero_any a.natAbs W0).mono ?_
    rintro e w1 ⟨rfl, hb1⟩
    clear c0_0 c0_1 c0_2 f_0 f_1 f_2 HBW; obtain ⟨c0_0, c0_1, c0_2, f_0, f_1, f_2, hbw⟩ := HR.out w1 (hb1); have HBW := Lib.hid hbw; clear hbw
    go_wp2_with fail
    go_ret
    exact ⟨by rw [HSG.out]; rfl, HBW.out⟩
  · have hd : decide (a = 0) = false := decide_eq_false h0
    by_cases hn : a < 0
    · have HS1 : Hid (decide (a < 0) = true) := decide_eq_true hn
      have HSG : Hid (sgI a = -1) := (if_neg h0).trans (if_pos hn)
      clear h0 hn
      go_enter Tryz.func35, Tryz.ntmps35
      go_wp2_with fail
      rw [HW.out]
      refine (szero_any a.natAbs W0).mono ?_
      rintro e w1 ⟨rfl, hb1⟩
      clear c0_0 c0_1 c0_2 f_0 f_1 f_2 HBW; obtain ⟨c0_0, c0_1, c0_2, f_0, f_1, f_2, hbw⟩ := HR.out w1 (hb1); have HBW := Lib.hid hbw; clear hbw
      have hs := HS1.out
      go_wp2_with fail
      go_ret
      exact ⟨by rw [HSG.out]; rfl, HBW.out⟩
    · have HS1 : Hid (decide (a < 0) = false) := decide_eq_false hn
      have HSG : Hid (sgI a = 1) := (if_neg h0).trans (if_neg hn)
      clear h0 hn
      go_enter Tryz.func35, Tryz.ntmps35
      go_wp2_with fail
      rw [HW.out]
      refine (szero_any a.natAbs W0).mono ?_
      rintro e w1 ⟨rfl, hb1⟩
      clear c0_0 c0_1 c0_2 f_0 f_1 f_2 HBW; obtain ⟨c0_0, c0_1, c0_2, f_0, f_1, f_2, hbw⟩ := HR.out w1 (hb1); have HBW := Lib.hid hbw; clear hbw
      have hs := HS1.out
      go_wp2_with fail
      go_ret
      exact ⟨by rw [HSG.out]; rfl, HBW.out⟩

set_option maxHeartbeats 2000000 in
theorem times_raw (p q : Bool) (a b : Nat) (w : World) (ha : wl a ≤ 274877906944) (hb : wl b ≤ 274877906944) :
    Calls Tryz.prog 72 #[.agg #[.int .u64 (lo (a)), .string (bg (a)), .bool p], .agg #[.int .u64 (lo (b)), .string (bg (b)), .bool q]] w fun e w' => e = .returned (.agg #[.int .u64 (lo (a * b)), .string (bg (a * b)), .bool ((p != q) && !decide (a * b = 0))]) ∧ Below w.heap.size w w' := by
  obtain ⟨W0, HW⟩ : ∃ W0, Hid ((((w.alloc (.cells #[.int .u64 (lo (a)), .string (bg (a)), .bool p] 34)).alloc (.cells #[.int .u64 (lo (b)), .string (bg (b)), .bool q] 34)).alloc (.cells #[.int .u64 0, .string ⟨#[]⟩, .bool false] 34)) = W0) := ⟨_, Lib.hid rfl⟩
  have HS := Lib.hid (show w.heap.size + 3 = W0.heap.size by rw [← HW.out]; simp)
  have z0 : w.heap.size < W0.heap.size := by rw [← HS.out]; omega
  have z1 : w.heap.size + 1 < W0.heap.size := by rw [← HS.out]; omega
  have z2 : w.heap.size + 1 + 1 < W0.heap.size := by rw [← HS.out]; omega
  have c0_0 : W0.cell? ⟨w.heap.size, 0, none⟩ = some (.int .u64 (lo (a))) := by rw [← HW.out]; simp [go_sem]
  have c0_1 : W0.cell? ⟨w.heap.size, 1, none⟩ = some (.string (bg (a))) := by rw [← HW.out]; simp [go_sem]
  have c0_2 : W0.cell? ⟨w.heap.size, 2, none⟩ = some (.bool p) := by rw [← HW.out]; simp [go_sem]
  have c1_0 : W0.cell? ⟨w.heap.size + 1, 0, none⟩ = some (.int .u64 (lo (b))) := by rw [← HW.out]; simp [go_sem]
  have c1_1 : W0.cell? ⟨w.heap.size + 1, 1, none⟩ = some (.string (bg (b))) := by rw [← HW.out]; simp [go_sem]
  have c1_2 : W0.cell? ⟨w.heap.size + 1, 2, none⟩ = some (.bool q) := by rw [← HW.out]; simp [go_sem]
  have c2_0 : W0.cell? ⟨w.heap.size + 1 + 1, 0, none⟩ = some (.int .u64 0) := by rw [← HW.out]; simp [go_sem]
  have c2_1 : W0.cell? ⟨w.heap.size + 1 + 1, 1, none⟩ = some (.string ⟨#[]⟩) := by rw [← HW.out]; simp [go_sem]
  have c2_2 : W0.cell? ⟨w.heap.size + 1 + 1, 2, none⟩ = some (.bool false) := by rw [← HW.out]; simp [go_sem]
  have f_0 : W0.frozen? ⟨w.heap.size + 1 + 1, 0, none⟩ = false := by rw [← HW.out]; simp [go_sem]
  have f_1 : W0.frozen? ⟨w.heap.size + 1 + 1, 1, none⟩ = false := by rw [← HW.out]; simp [go_sem]
  have f_2 : W0.frozen? ⟨w.heap.size + 1 + 1, 2, none⟩ = false := by rw [← HW.out]; simp [go_sem]
  have hbw : Below w.heap.size w W0 := by rw [← HW.out]; exact (((Below.refl _ _).alloc (Nat.le_refl _) _).alloc (by simp) _).alloc (by simp; omega) _
  have HR : Hid (∀ w1 : World, Below W0.heap.size W0 w1 → w1.cell? ⟨w.heap.size, 0, none⟩ = some (.int .u64 (lo (a))) ∧ w1.cell? ⟨w.heap.size, 1, none⟩ = some (.string (bg (a))) ∧ w1.cell? ⟨w.heap.size, 2, none⟩ = some (.bool p) ∧ w1.cell? ⟨w.heap.size + 1, 0, none⟩ = some (.int .u64 (lo (b))) ∧ w1.cell? ⟨w.heap.size + 1, 1, none⟩ = some (.string (bg (b))) ∧ w1.cell? ⟨w.heap.size + 1, 2, none⟩ = some (.bool q) ∧ w1.cell? ⟨w.heap.size + 1 + 1, 0, none⟩ = some (.int .u64 0) ∧ w1.cell? ⟨w.heap.size + 1 + 1, 1, none⟩ = some (.string ⟨#[]⟩) ∧ w1.cell? ⟨w.heap.size + 1 + 1, 2, none⟩ = some (.bool false) ∧ w1.frozen? ⟨w.heap.size + 1 + 1, 0, none⟩ = false ∧ w1.frozen? ⟨w.heap.size + 1 + 1, 1, none⟩ = false ∧ w1.frozen? ⟨w.heap.size + 1 + 1, 2, none⟩ = false ∧ Below w.heap.size w w1) := fun w1 hb => ⟨(held W0 w1 hb _ _ z0).trans c0_0, (held W0 w1 hb _ _ z0).trans c0_1, (held W0 w1 hb _ _ z0).trans c0_2, (held W0 w1 hb _ _ z1).trans c1_0, (held W0 w1 hb _ _ z1).trans c1_1, (held W0 w1 hb _ _ z1).trans c1_2, (held W0 w1 hb _ _ z2).trans c2_0, (held W0 w1 hb _ _ z2).trans c2_1, (held W0 w1 hb _ _ z2).trans c2_2, (heldf W0 w1 hb _ _ z2).trans f_0, (heldf W0 w1 hb _ _ z2).trans f_1, (heldf W0 w1 hb _ _ z2).trans f_2, grow hbw hb⟩
  have HBW := Lib.hid hbw
  clear hbw
  obtain ⟨P, HP⟩ : ∃ P, Hid (a * b = P) := ⟨_, Lib.hid rfl⟩
  rw [HP.out]
  cases p <;> cases q
  all_goals
    go_enter Tryz.func72, Tryz.ntmps72
    go_wp2_with fail
    rw [HW.out]
    have hlaw := heldat (w.heap.size + 1 + 1) W0
    have y0 : w.heap.size < w.heap.size + 1 + 1 := by omega
    have y1 : w.heap.size + 1 < w.heap.size + 1 + 1 := by omega
    have HC : Hid (w.heap.size + 1 + 1 ≤ W0.heap.size) := Nat.le_of_lt z2
    go_region_held3 (fun w' => Below (w.heap.size + 1 + 1) W0 w')
      (first | exact (Below.refl _ _).drew | assumption | exact (((by assumption : Below (w.heap.size + 1 + 1) W0 _).setCell (Nat.le_refl _) _).setCell (Nat.le_refl _) _).setCell (Nat.le_refl _) _)
      (first
      | (go_at_call 49; refine (mul_any a b _ (by omega) (by omega)).mono ?_; rintro e w1 ⟨rfl, hb1⟩; rw [HP.out]; have hB1 : Hid (Below W0.heap.size W0 w1) := ((Below.refl _ _).drew).trans hb1; have hC1 := hB1.out.mono HC.out; clear hb1)
      | (go_at_call 78; refine (from_raw _ P _).mono ?_; rintro e w2 ⟨rfl, hb2⟩; have hB2 : Hid (Below W0.heap.size W0 w2) := grow hB1.out hb2; have hC2 := hB2.out.mono HC.out; clear hb2; clear c0_0 c0_1 c0_2 c1_0 c1_1 c1_2 c2_0 c2_1 c2_2 f_0 f_1 f_2 HBW; obtain ⟨c0_0, c0_1, c0_2, c1_0, c1_1, c1_2, c2_0, c2_1, c2_2, f_0, f_1, f_2, hbw⟩ := HR.out w2 (hB2.out); have HBW := Lib.hid hbw; clear hbw))
    all_goals
      go_wp2
      exact bodyPost_ret (v := .agg #[.int .u64 (lo (P)), .string (bg (P)), .bool _]) (by simp [results, Tryz.results72, go_sem, c2_0, c2_1, c2_2]) rfl ⟨rfl, by first | exact sc3 (HBW.out) (by show w.heap.size ≤ w.heap.size + 1 + 1; omega) | exact (sc3 (HBW.out) (by show w.heap.size ≤ w.heap.size + 1 + 1; omega)).drew⟩
end Go.Proofs.YtenpbnmmadbkdaaGreat


/- ints: plus, told, Add, Sub, Mul, Cmp: what they return. -/
namespace Go.Proofs.YtenpbnmmadbkdaaGreat
open Go.RowKit

theorem natAbs_if (a : Int) : a = if decide (a < 0) then -((a.natAbs : Nat) : Int) else ((a.natAbs : Nat) : Int) := by
  by_cases h : a < 0 <;> simp [h] <;> omega

theorem times_any (a b : Int) (w : World) (ha : wl a.natAbs ≤ 274877906944) (hb : wl b.natAbs ≤ 274877906944) :
    Calls Tryz.prog 72 #[(Value.agg #[.int .u64 (lo (Int.natAbs (a))), .string (bg (Int.natAbs (a))), .bool (decide ((a) < 0))]), (Value.agg #[.int .u64 (lo (Int.natAbs (b))), .string (bg (Int.natAbs (b))), .bool (decide ((b) < 0))])] w fun e w' => e = .returned (Value.agg #[.int .u64 (lo (Int.natAbs (a * b))), .string (bg (Int.natAbs (a * b))), .bool (decide ((a * b) < 0))]) ∧ Below w.heap.size w w' := by
  have h := times_raw (decide (a < 0)) (decide (b < 0)) a.natAbs b.natAbs w ha hb
  rw [int_fields] at h
  have e : (if (decide (a < 0) != decide (b < 0)) then -((a.natAbs * b.natAbs : Nat) : Int) else ((a.natAbs * b.natAbs : Nat) : Int)) = a * b := by
    conv => rhs; rw [natAbs_if a, natAbs_if b]
    cases decide (a < 0) <;> cases decide (b < 0) <;> simp [Int.neg_mul, Int.mul_neg]
  rw [e] at h
  exact h

/-- the sum of two signed sizes -/
def sgv (s : Bool) (n : Nat) : Int := if s then -(n : Int) else (n : Int)

set_option maxHeartbeats 1000000 in
theorem plus_same (p : Bool) (a b : Nat) (w : World) (ha : wl a ≤ 274877906944) (hb : wl b ≤ 274877906944) :
    Calls Tryz.prog 107 #[.agg #[.int .u64 (lo (a)), .string (bg (a)), .bool p], .agg #[.int .u64 (lo (b)), .string (bg (b)), .bool p]] w fun e w' => e = .returned (.agg #[.int .u64 (lo (a + b)), .string (bg (a + b)), .bool (p && !decide (a + b = 0))]) ∧ Below w.heap.size w w' := by
  obtain ⟨W0, HW⟩ : ∃ W0, Hid ((((w.alloc (.cells #[.int .u64 (lo (a)), .string (bg (a)), .bool p] 34)).alloc (.cells #[.int .u64 (lo (b)), .string (bg (b)), .bool p] 34)).alloc (.cells #[.int .u64 0, .string ⟨#[]⟩, .bool false] 34)) = W0) := ⟨_, Lib.hid rfl⟩
  have HS := Lib.hid (show w.heap.size + 3 = W0.heap.size by rw [← HW.out]; simp)
  have z0 : w.heap.size < W0.heap.size := by rw [← HS.out]; omega
  have z1 : w.heap.size + 1 < W0.heap.size := by rw [← HS.out]; omega
  have z2 : w.heap.size + 1 + 1 < W0.heap.size := by rw [← HS.out]; omega
  have c0_0 : W0.cell? ⟨w.heap.size, 0, none⟩ = some (.int .u64 (lo (a))) := by rw [← HW.out]; simp [go_sem]
  have c0_1 : W0.cell? ⟨w.heap.size, 1, none⟩ = some (.string (bg (a))) := by rw [← HW.out]; simp [go_sem]
  have c0_2 : W0.cell? ⟨w.heap.size, 2, none⟩ = some (.bool p) := by rw [← HW.out]; simp [go_sem]
  have c1_0 : W0.cell? ⟨w.heap.size + 1, 0, none⟩ = some (.int .u64 (lo (b))) := by rw [← HW.out]; simp [go_sem]
  have c1_1 : W0.cell? ⟨w.heap.size + 1, 1, none⟩ = some (.string (bg (b))) := by rw [← HW.out]; simp [go_sem]
  have c1_2 : W0.cell? ⟨w.heap.size + 1, 2, none⟩ = some (.bool p) := by rw [← HW.out]; simp [go_sem]
  have c2_0 : W0.cell? ⟨w.heap.size + 1 + 1, 0, none⟩ = some (.int .u64 0) := by rw [← HW.out]; simp [go_sem]
  have c2_1 : W0.cell? ⟨w.heap.size + 1 + 1, 1, none⟩ = some (.string ⟨#[]⟩) := by rw [← HW.out]; simp [go_sem]
  have c2_2 : W0.cell? ⟨w.heap.size + 1 + 1, 2, none⟩ = some (.bool false) := by rw [← HW.out]; simp [go_sem]
  have f_0 : W0.frozen? ⟨w.heap.size + 1 + 1, 0, none⟩ = false := by rw [← HW.out]; simp [go_sem]
  have f_1 : W0.frozen? ⟨w.heap.size + 1 + 1, 1, none⟩ = false := by rw [← HW.out]; simp [go_sem]
  have f_2 : W0.frozen? ⟨w.heap.size + 1 + 1, 2, none⟩ = false := by rw [← HW.out]; simp [go_sem]
  have hbw : Below w.heap.size w W0 := by rw [← HW.out]; exact (((Below.refl _ _).alloc (Nat.le_refl _) _).alloc (by simp) _).alloc (by simp; omega) _
  have HR : Hid (∀ w1 : World, Below W0.heap.size W0 w1 → w1.cell? ⟨w.heap.size, 0, none⟩ = some (.int .u64 (lo (a))) ∧ w1.cell? ⟨w.heap.size, 1, none⟩ = some (.string (bg (a))) ∧ w1.cell? ⟨w.heap.size, 2, none⟩ = some (.bool p) ∧ w1.cell? ⟨w.heap.size + 1, 0, none⟩ = some (.int .u64 (lo (b))) ∧ w1.cell? ⟨w.heap.size + 1, 1, none⟩ = some (.string (bg (b))) ∧ w1.cell? ⟨w.heap.size + 1, 2, none⟩ = some (.bool p) ∧ w1.cell? ⟨w.heap.size + 1 + 1, 0, none⟩ = some (.int .u64 0) ∧ w1.cell? ⟨w.heap.size + 1 + 1, 1, none⟩ = some (.string ⟨#[]⟩) ∧ w1.cell? ⟨w.heap.size + 1 + 1, 2, none⟩ = some (.bool false) ∧ w1.frozen? ⟨w.heap.size + 1 + 1, 0, none⟩ = false ∧ w1.frozen? ⟨w.heap.size + 1 + 1, 1, none⟩ = false ∧ w1.frozen? ⟨w.heap.size + 1 + 1, 2, none⟩ = false ∧ Below w.heap.size w w1) := fun w1 hb => ⟨(held W0 w1 hb _ _ z0).trans c0_0, (held W0 w1 hb _ _ z0).trans c0_1, (held W0 w1 hb _ _ z0).trans c0_2, (held W0 w1 hb _ _ z1).trans c1_0, (held W0 w1 hb _ _ z1).trans c1_1, (held W0 w1 hb _ _ z1).trans c1_2, (held W0 w1 hb _ _ z2).trans c2_0, (held W0 w1 hb _ _ z2).trans c2_1, (held W0 w1 hb _ _ z2).trans c2_2, (heldf W0 w1 hb _ _ z2).trans f_0, (heldf W0 w1 hb _ _ z2).trans f_1, (heldf W0 w1 hb _ _ z2).trans f_2, grow hbw hb⟩
  have HBW := Lib.hid hbw
  clear hbw
  obtain ⟨P, HP⟩ : ∃ P, Hid (a + b = P) := ⟨_, Lib.hid rfl⟩
  rw [HP.out]
  cases p
  all_goals
    go_enter Tryz.func107, Tryz.ntmps107
    go_wp2_with fail
    rw [HW.out]
    have hlaw := heldat (w.heap.size + 1 + 1) W0
    have y0 : w.heap.size < w.heap.size + 1 + 1 := by omega
    have y1 : w.heap.size + 1 < w.heap.size + 1 + 1 := by omega
    have HC : Hid (w.heap.size + 1 + 1 ≤ W0.heap.size) := Nat.le_of_lt z2
    go_region_held3 (fun w' => Below (w.heap.size + 1 + 1) W0 w')
      (first | exact (Below.refl _ _).drew | assumption | exact (((by assumption : Below (w.heap.size + 1 + 1) W0 _).setCell (Nat.le_refl _) _).setCell (Nat.le_refl _) _).setCell (Nat.le_refl _) _)
      (first
      | (go_at_call 82; refine (add_any a b _ (by omega) (by omega)).mono ?_; rintro e w1 ⟨rfl, hb1⟩; rw [HP.out]; have hB1 : Hid (Below W0.heap.size W0 w1) := ((Below.refl _ _).drew).trans hb1; have hC1 := hB1.out.mono HC.out; clear hb1)
      | (go_at_call 78; refine (from_raw _ P _).mono ?_; rintro e w2 ⟨rfl, hb2⟩; have hB2 : Hid (Below W0.heap.size W0 w2) := grow hB1.out hb2; have hC2 := hB2.out.mono HC.out; clear hb2; clear c0_0 c0_1 c0_2 c1_0 c1_1 c1_2 c2_0 c2_1 c2_2 f_0 f_1 f_2 HBW; obtain ⟨c0_0, c0_1, c0_2, c1_0, c1_1, c1_2, c2_0, c2_1, c2_2, f_0, f_1, f_2, hbw⟩ := HR.out w2 (hB2.out); have HBW := Lib.hid hbw; clear hbw))
    all_goals
      go_wp2
      exact bodyPost_ret (v := .agg #[.int .u64 (lo (P)), .string (bg (P)), .bool _]) (by simp [results, Tryz.results107, go_sem, c2_0, c2_1, c2_2]) rfl ⟨rfl, by first | exact sc3 (HBW.out) (by show w.heap.size ≤ w.heap.size + 1 + 1; omega) | exact (sc3 (HBW.out) (by show w.heap.size ≤ w.heap.size + 1 + 1; omega)).drew⟩

set_option maxHeartbeats 1000000 in
theorem plus_other (p : Bool) (a b : Nat) (w : World) (ha : wl a ≤ 274877906944) (hb : wl b ≤ 274877906944) :
    Calls Tryz.prog 107 #[.agg #[.int .u64 (lo (a)), .string (bg (a)), .bool p], .agg #[.int .u64 (lo (b)), .string (bg (b)), .bool (!p)]] w fun e w' =>
      e = .returned (if b ≤ a then .agg #[.int .u64 (lo (a - b)), .string (bg (a - b)), .bool (p && !decide (a - b = 0))] else .agg #[.int .u64 (lo (b - a)), .string (bg (b - a)), .bool (!p && !decide (b - a = 0))]) ∧ Below w.heap.size w w' := by
  obtain ⟨W0, HW⟩ : ∃ W0, Hid ((((w.alloc (.cells #[.int .u64 (lo (a)), .string (bg (a)), .bool p] 34)).alloc (.cells #[.int .u64 (lo (b)), .string (bg (b)), .bool (!p)] 34)).alloc (.cells #[.int .u64 0, .string ⟨#[]⟩, .bool false] 34)) = W0) := ⟨_, Lib.hid rfl⟩
  have HS := Lib.hid (show w.heap.size + 3 = W0.heap.size by rw [← HW.out]; simp)
  have z0 : w.heap.size < W0.heap.size := by rw [← HS.out]; omega
  have z1 : w.heap.size + 1 < W0.heap.size := by rw [← HS.out]; omega
  have z2 : w.heap.size + 1 + 1 < W0.heap.size := by rw [← HS.out]; omega
  have c0_0 : W0.cell? ⟨w.heap.size, 0, none⟩ = some (.int .u64 (lo (a))) := by rw [← HW.out]; simp [go_sem]
  have c0_1 : W0.cell? ⟨w.heap.size, 1, none⟩ = some (.string (bg (a))) := by rw [← HW.out]; simp [go_sem]
  have c0_2 : W0.cell? ⟨w.heap.size, 2, none⟩ = some (.bool p) := by rw [← HW.out]; simp [go_sem]
  have c1_0 : W0.cell? ⟨w.heap.size + 1, 0, none⟩ = some (.int .u64 (lo (b))) := by rw [← HW.out]; simp [go_sem]
  have c1_1 : W0.cell? ⟨w.heap.size + 1, 1, none⟩ = some (.string (bg (b))) := by rw [← HW.out]; simp [go_sem]
  have c1_2 : W0.cell? ⟨w.heap.size + 1, 2, none⟩ = some (.bool (!p)) := by rw [← HW.out]; simp [go_sem]
  have c2_0 : W0.cell? ⟨w.heap.size + 1 + 1, 0, none⟩ = some (.int .u64 0) := by rw [← HW.out]; simp [go_sem]
  have c2_1 : W0.cell? ⟨w.heap.size + 1 + 1, 1, none⟩ = some (.string ⟨#[]⟩) := by rw [← HW.out]; simp [go_sem]
  have c2_2 : W0.cell? ⟨w.heap.size + 1 + 1, 2, none⟩ = some (.bool false) := by rw [← HW.out]; simp [go_sem]
  have f_0 : W0.frozen? ⟨w.heap.size + 1 + 1, 0, none⟩ = false := by rw [← HW.out]; simp [go_sem]
  have f_1 : W0.frozen? ⟨w.heap.size + 1 + 1, 1, none⟩ = false := by rw [← HW.out]; simp [go_sem]
  have f_2 : W0.frozen? ⟨w.heap.size + 1 + 1, 2, none⟩ = false := by rw [← HW.out]; simp [go_sem]
  have hbw : Below w.heap.size w W0 := by rw [← HW.out]; exact (((Below.refl _ _).alloc (Nat.le_refl _) _).alloc (by simp) _).alloc (by simp; omega) _
  have HR : Hid (∀ w1 : World, Below W0.heap.size W0 w1 → w1.cell? ⟨w.heap.size, 0, none⟩ = some (.int .u64 (lo (a))) ∧ w1.cell? ⟨w.heap.size, 1, none⟩ = some (.string (bg (a))) ∧ w1.cell? ⟨w.heap.size, 2, none⟩ = some (.bool p) ∧ w1.cell? ⟨w.heap.size + 1, 0, none⟩ = some (.int .u64 (lo (b))) ∧ w1.cell? ⟨w.heap.size + 1, 1, none⟩ = some (.string (bg (b))) ∧ w1.cell? ⟨w.heap.size + 1, 2, none⟩ = some (.bool (!p)) ∧ w1.cell? ⟨w.heap.size + 1 + 1, 0, none⟩ = some (.int .u64 0) ∧ w1.cell? ⟨w.heap.size + 1 + 1, 1, none⟩ = some (.string ⟨#[]⟩) ∧ w1.cell? ⟨w.heap.size + 1 + 1, 2, none⟩ = some (.bool false) ∧ w1.frozen? ⟨w.heap.size + 1 + 1, 0, none⟩ = false ∧ w1.frozen? ⟨w.heap.size + 1 + 1, 1, none⟩ = false ∧ w1.frozen? ⟨w.heap.size + 1 + 1, 2, none⟩ = false ∧ Below w.heap.size w w1) := fun w1 hb => ⟨(held W0 w1 hb _ _ z0).trans c0_0, (held W0 w1 hb _ _ z0).trans c0_1, (held W0 w1 hb _ _ z0).trans c0_2, (held W0 w1 hb _ _ z1).trans c1_0, (held W0 w1 hb _ _ z1).trans c1_1, (held W0 w1 hb _ _ z1).trans c1_2, (held W0 w1 hb _ _ z2).trans c2_0, (held W0 w1 hb _ _ z2).trans c2_1, (held W0 w1 hb _ _ z2).trans c2_2, (heldf W0 w1 hb _ _ z2).trans f_0, (heldf W0 w1 hb _ _ z2).trans f_1, (heldf W0 w1 hb _ _ z2).trans f_2, grow hbw hb⟩
  have HBW := Lib.hid hbw
  clear hbw
  by_cases hab : b ≤ a
  · rw [if_pos hab]
    have hd : decide (b ≤ a) = true := decide_eq_true hab
    obtain ⟨P, HP⟩ : ∃ P, Hid (a - b = P) := ⟨_, Lib.hid rfl⟩
    rw [HP.out]
    clear hab
    cases p
    all_goals
      simp only [Bool.not_true, Bool.not_false] at *
      go_enter Tryz.func107, Tryz.ntmps107
      go_wp2_with fail
      rw [HW.out]
      refine (sub_any a b W0 (by omega) (by omega)).mono ?_
      rintro e w1 ⟨rfl, hb1⟩
      rw [HP.out]
      clear c0_0 c0_1 c0_2 c1_0 c1_1 c1_2 c2_0 c2_1 c2_2 f_0 f_1 f_2 HBW; obtain ⟨c0_0, c0_1, c0_2, c1_0, c1_1, c1_2, c2_0, c2_1, c2_2, f_0, f_1, f_2, hbw⟩ := HR.out w1 (hb1); have HBW := Lib.hid hbw; clear hbw
      have HB1 := Lib.hid hb1
      have n0 : w.heap.size < w1.heap.size := by have := hb1.size; omega
      have n1 : w.heap.size + 1 < w1.heap.size := by have := hb1.size; omega
      have n2 : w.heap.size + 1 + 1 < w1.heap.size := by have := hb1.size; omega
      clear hb1
      go_wp2_with fail
      refine (from_raw _ P _).mono ?_
      rintro e w2 ⟨rfl, hb2⟩
      have hB2 := grow (HB1.out.alloc HB1.out.size _) hb2
      clear hb2
      clear c0_0 c0_1 c0_2 c1_0 c1_1 c1_2 c2_0 c2_1 c2_2 f_0 f_1 f_2 HBW; obtain ⟨c0_0, c0_1, c0_2, c1_0, c1_1, c1_2, c2_0, c2_1, c2_2, f_0, f_1, f_2, hbw⟩ := HR.out w2 (hB2); have HBW := Lib.hid hbw; clear hbw
      clear hB2
      go_wp2
      exact bodyPost_ret (v := .agg #[.int .u64 (lo (P)), .string (bg (P)), .bool _]) (by simp [results, Tryz.results107, go_sem, c2_0, c2_1, c2_2]) rfl ⟨rfl, by first | exact sc3 (HBW.out) (by show w.heap.size ≤ w.heap.size + 1 + 1; omega) | exact (sc3 (HBW.out) (by show w.heap.size ≤ w.heap.size + 1 + 1; omega)).drew⟩
  · rw [if_neg hab]
    have hd : decide (b ≤ a) = false := decide_eq_false hab
    obtain ⟨P, HP⟩ : ∃ P, Hid (b - a = P) := ⟨_, Lib.hid rfl⟩
    rw [HP.out]
    clear hab
    cases p
    all_goals
      simp only [Bool.not_true, Bool.not_false] at *
      go_enter Tryz.func107, Tryz.ntmps107
      go_wp2_with fail
      rw [HW.out]
      refine (sub_any a b W0 (by omega) (by omega)).mono ?_
      rintro e w1 ⟨rfl, hb1⟩
      clear c0_0 c0_1 c0_2 c1_0 c1_1 c1_2 c2_0 c2_1 c2_2 f_0 f_1 f_2 HBW; obtain ⟨c0_0, c0_1, c0_2, c1_0, c1_1, c1_2, c2_0, c2_1, c2_2, f_0, f_1, f_2, hbw⟩ := HR.out w1 (hb1); have HBW := Lib.hid hbw; clear hbw
      have HB1 := Lib.hid hb1
      have n0 : w.heap.size < w1.heap.size := by have := hb1.size; omega
      have n1 : w.heap.size + 1 < w1.heap.size := by have := hb1.size; omega
      have n2 : w.heap.size + 1 + 1 < w1.heap.size := by have := hb1.size; omega
      clear hb1
      go_wp2_with fail
      refine (sub_any b a _ (by omega) (by omega)).mono ?_
      rintro e w2 ⟨rfl, hb2⟩
      rw [HP.out]
      have hB2 := grow (HB1.out.alloc HB1.out.size _) hb2
      clear hb2
      clear c0_0 c0_1 c0_2 c1_0 c1_1 c1_2 c2_0 c2_1 c2_2 f_0 f_1 f_2 HBW; obtain ⟨c0_0, c0_1, c0_2, c1_0, c1_1, c1_2, c2_0, c2_1, c2_2, f_0, f_1, f_2, hbw⟩ := HR.out w2 (hB2); have HBW := Lib.hid hbw; clear hbw
      have HB2 := Lib.hid hB2
      have n3 : w.heap.size < w2.heap.size := by have := hB2.size; omega
      have n4 : w.heap.size + 1 < w2.heap.size := by have := hB2.size; omega
      have n5 : w.heap.size + 1 + 1 < w2.heap.size := by have := hB2.size; omega
      clear hB2
      go_wp2_with fail
      refine (from_raw _ P _).mono ?_
      rintro e w3 ⟨rfl, hb3⟩
      have hB3 := grow (HB2.out.alloc HB2.out.size _) hb3
      clear hb3
      clear c0_0 c0_1 c0_2 c1_0 c1_1 c1_2 c2_0 c2_1 c2_2 f_0 f_1 f_2 HBW; obtain ⟨c0_0, c0_1, c0_2, c1_0, c1_1, c1_2, c2_0, c2_1, c2_2, f_0, f_1, f_2, hbw⟩ := HR.out w3 (hB3); have HBW := Lib.hid hbw; clear hbw
      clear hB3
      go_wp2
      exact bodyPost_ret (v := .agg #[.int .u64 (lo (P)), .string (bg (P)), .bool _]) (by simp [results, Tryz.results107, go_sem, c2_0, c2_1, c2_2]) rfl ⟨rfl, by first | exact sc3 (HBW.out) (by show w.heap.size ≤ w.heap.size + 1 + 1; omega) | exact (sc3 (HBW.out) (by show w.heap.size ≤ w.heap.size + 1 + 1; omega)).drew⟩
end Go.Proofs.YtenpbnmmadbkdaaGreat


/- ints: told, Add, Sub, Mul, Cmp, Of: what they return. -/
namespace Go.Proofs.YtenpbnmmadbkdaaGreat
open Go.RowKit

theorem plus_any (a b : Int) (w : World) (ha : wl a.natAbs ≤ 274877906944) (hb : wl b.natAbs ≤ 274877906944) :
    Calls Tryz.prog 107 #[(Value.agg #[.int .u64 (lo (Int.natAbs (a))), .string (bg (Int.natAbs (a))), .bool (decide ((a) < 0))]), (Value.agg #[.int .u64 (lo (Int.natAbs (b))), .string (bg (Int.natAbs (b))), .bool (decide ((b) < 0))])] w fun e w' => e = .returned (Value.agg #[.int .u64 (lo (Int.natAbs (a + b))), .string (bg (Int.natAbs (a + b))), .bool (decide ((a + b) < 0))]) ∧ Below w.heap.size w w' := by
  have ea := natAbs_if a
  have eb := natAbs_if b
  by_cases hs : decide (b < 0) = decide (a < 0)
  · have h := plus_same (decide (a < 0)) a.natAbs b.natAbs w ha hb
    rw [int_fields] at h
    have e : (if decide (a < 0) then -((a.natAbs + b.natAbs : Nat) : Int) else ((a.natAbs + b.natAbs : Nat) : Int)) = a + b := by
      by_cases h1 : a < 0 <;> by_cases h2 : b < 0 <;> simp [h1, h2] at hs ⊢ <;> omega
    rw [e] at h
    rw [hs]
    exact h
  · have hs2 : decide (b < 0) = !decide (a < 0) := by
      by_cases h1 : a < 0 <;> by_cases h2 : b < 0 <;> simp [h1, h2] at hs ⊢
    have h := plus_other (decide (a < 0)) a.natAbs b.natAbs w ha hb
    rw [hs2]
    by_cases hab : b.natAbs ≤ a.natAbs
    · rw [if_pos hab, int_fields] at h
      have e : (if decide (a < 0) then -((a.natAbs - b.natAbs : Nat) : Int) else ((a.natAbs - b.natAbs : Nat) : Int)) = a + b := by
        by_cases h1 : a < 0 <;> by_cases h2 : b < 0 <;> simp [h1, h2] at hs ⊢ <;> omega
      rw [e] at h
      exact h
    · rw [if_neg hab, int_fields] at h
      have e : (if !decide (a < 0) then -((b.natAbs - a.natAbs : Nat) : Int) else ((b.natAbs - a.natAbs : Nat) : Int)) = a + b := by
        by_cases h1 : a < 0 <;> by_cases h2 : b < 0 <;> simp [h1, h2] at hs ⊢ <;> omega
      rw [e] at h
      exact h

theorem told_plus (a b : Int) (w : World) (ha : wl a.natAbs ≤ 274877906944) (hb : wl b.natAbs ≤ 274877906944) :
    Calls Tryz.prog 71 #[.func (.func 107) #[] #[], (Value.agg #[.int .u64 (lo (Int.natAbs (a))), .string (bg (Int.natAbs (a))), .bool (decide ((a) < 0))]), (Value.agg #[.int .u64 (lo (Int.natAbs (b))), .string (bg (Int.natAbs (b))), .bool (decide ((b) < 0))])] w fun e w' => e = .returned (Value.agg #[.int .u64 (lo (Int.natAbs (a + b))), .string (bg (Int.natAbs (a + b))), .bool (decide ((a + b) < 0))]) ∧ Below w.heap.size w w' := by
  obtain ⟨W0, HW⟩ : ∃ W0, Hid ((((w.alloc (.cells #[.int .u64 (lo (Int.natAbs (a))), .string (bg (Int.natAbs (a))), .bool (decide ((a) < 0))] 34)).alloc (.cells #[.int .u64 (lo (Int.natAbs (b))), .string (bg (Int.natAbs (b))), .bool (decide ((b) < 0))] 34)).alloc (.cells #[.int .u64 0, .string ⟨#[]⟩, .bool false] 34)) = W0) := ⟨_, Lib.hid rfl⟩
  have HS := Lib.hid (show w.heap.size + 3 = W0.heap.size by rw [← HW.out]; simp)
  have z0 : w.heap.size < W0.heap.size := by rw [← HS.out]; omega
  have z1 : w.heap.size + 1 < W0.heap.size := by rw [← HS.out]; omega
  have z2 : w.heap.size + 1 + 1 < W0.heap.size := by rw [← HS.out]; omega
  have c0_0 : W0.cell? ⟨w.heap.size, 0, none⟩ = some (.int .u64 (lo (Int.natAbs (a)))) := by rw [← HW.out]; simp [go_sem]
  have c0_1 : W0.cell? ⟨w.heap.size, 1, none⟩ = some (.string (bg (Int.natAbs (a)))) := by rw [← HW.out]; simp [go_sem]
  have c0_2 : W0.cell? ⟨w.heap.size, 2, none⟩ = some (.bool (decide ((a) < 0))) := by rw [← HW.out]; simp [go_sem]
  have c1_0 : W0.cell? ⟨w.heap.size + 1, 0, none⟩ = some (.int .u64 (lo (Int.natAbs (b)))) := by rw [← HW.out]; simp [go_sem]
  have c1_1 : W0.cell? ⟨w.heap.size + 1, 1, none⟩ = some (.string (bg (Int.natAbs (b)))) := by rw [← HW.out]; simp [go_sem]
  have c1_2 : W0.cell? ⟨w.heap.size + 1, 2, none⟩ = some (.bool (decide ((b) < 0))) := by rw [← HW.out]; simp [go_sem]
  have c2_0 : W0.cell? ⟨w.heap.size + 1 + 1, 0, none⟩ = some (.int .u64 0) := by rw [← HW.out]; simp [go_sem]
  have c2_1 : W0.cell? ⟨w.heap.size + 1 + 1, 1, none⟩ = some (.string ⟨#[]⟩) := by rw [← HW.out]; simp [go_sem]
  have c2_2 : W0.cell? ⟨w.heap.size + 1 + 1, 2, none⟩ = some (.bool false) := by rw [← HW.out]; simp [go_sem]
  have f_0 : W0.frozen? ⟨w.heap.size + 1 + 1, 0, none⟩ = false := by rw [← HW.out]; simp [go_sem]
  have f_1 : W0.frozen? ⟨w.heap.size + 1 + 1, 1, none⟩ = false := by rw [← HW.out]; simp [go_sem]
  have f_2 : W0.frozen? ⟨w.heap.size + 1 + 1, 2, none⟩ = false := by rw [← HW.out]; simp [go_sem]
  have hbw : Below w.heap.size w W0 := by rw [← HW.out]; exact (((Below.refl _ _).alloc (Nat.le_refl _) _).alloc (by simp) _).alloc (by simp; omega) _
  have HR : Hid (∀ w1 : World, Below W0.heap.size W0 w1 → w1.cell? ⟨w.heap.size, 0, none⟩ = some (.int .u64 (lo (Int.natAbs (a)))) ∧ w1.cell? ⟨w.heap.size, 1, none⟩ = some (.string (bg (Int.natAbs (a)))) ∧ w1.cell? ⟨w.heap.size, 2, none⟩ = some (.bool (decide ((a) < 0))) ∧ w1.cell? ⟨w.heap.size + 1, 0, none⟩ = some (.int .u64 (lo (Int.natAbs (b)))) ∧ w1.cell? ⟨w.heap.size + 1, 1, none⟩ = some (.string (bg (Int.natAbs (b)))) ∧ w1.cell? ⟨w.heap.size + 1, 2, none⟩ = some (.bool (decide ((b) < 0))) ∧ w1.cell? ⟨w.heap.size + 1 + 1, 0, none⟩ = some (.int .u64 0) ∧ w1.cell? ⟨w.heap.size + 1 + 1, 1, none⟩ = some (.string ⟨#[]⟩) ∧ w1.cell? ⟨w.heap.size + 1 + 1, 2, none⟩ = some (.bool false) ∧ w1.frozen? ⟨w.heap.size + 1 + 1, 0, none⟩ = false ∧ w1.frozen? ⟨w.heap.size + 1 + 1, 1, none⟩ = false ∧ w1.frozen? ⟨w.heap.size + 1 + 1, 2, none⟩ = false ∧ Below w.heap.size w w1) := fun w1 hb => ⟨(held W0 w1 hb _ _ z0).trans c0_0, (held W0 w1 hb _ _ z0).trans c0_1, (held W0 w1 hb _ _ z0).trans c0_2, (held W0 w1 hb _ _ z1).trans c1_0, (held W0 w1 hb _ _ z1).trans c1_1, (held W0 w1 hb _ _ z1).trans c1_2, (held W0 w1 hb _ _ z2).trans c2_0, (held W0 w1 hb _ _ z2).trans c2_1, (held W0 w1 hb _ _ z2).trans c2_2, (heldf W0 w1 hb _ _ z2).trans f_0, (heldf W0 w1 hb _ _ z2).trans f_1, (heldf W0 w1 hb _ _ z2).trans f_2, grow hbw hb⟩
  have HBW := Lib.hid hbw
  clear hbw
  obtain ⟨z, HZ⟩ : ∃ z, Hid (a + b = z) := ⟨_, Lib.hid rfl⟩
  rw [HZ.out]
  go_enter Tryz.func71, Tryz.ntmps71
  go_wp2_with fail
  rw [HW.out]
  refine (plus_any a b W0 ha hb).mono ?_
  rintro e w1 ⟨rfl, hb1⟩
  rw [HZ.out]
  clear c0_0 c0_1 c0_2 c1_0 c1_1 c1_2 c2_0 c2_1 c2_2 f_0 f_1 f_2 HBW; obtain ⟨c0_0, c0_1, c0_2, c1_0, c1_1, c1_2, c2_0, c2_1, c2_2, f_0, f_1, f_2, hbw⟩ := HR.out w1 (hb1); have HBW := Lib.hid hbw; clear hbw
  clear hb1
  go_wp2
  exact bodyPost_ret (v := (Value.agg #[.int .u64 (lo (Int.natAbs (z))), .string (bg (Int.natAbs (z))), .bool (decide ((z) < 0))])) (by simp [results, Tryz.results71, go_sem, c2_0, c2_1, c2_2]) rfl ⟨rfl, by first | exact sc3 (HBW.out) (by show w.heap.size ≤ w.heap.size + 1 + 1; omega) | exact (sc3 (HBW.out) (by show w.heap.size ≤ w.heap.size + 1 + 1; omega)).drew⟩

theorem told_times (a b : Int) (w : World) (ha : wl a.natAbs ≤ 274877906944) (hb : wl b.natAbs ≤ 274877906944) :
    Calls Tryz.prog 71 #[.func (.func 72) #[] #[], (Value.agg #[.int .u64 (lo (Int.natAbs (a))), .string (bg (Int.natAbs (a))), .bool (decide ((a) < 0))]), (Value.agg #[.int .u64 (lo (Int.natAbs (b))), .string (bg (Int.natAbs (b))), .bool (decide ((b) < 0))])] w fun e w' => e = .returned (Value.agg #[.int .u64 (lo (Int.natAbs (a * b))), .string (bg (Int.natAbs (a * b))), .bool (decide ((a * b) < 0))]) ∧ Below w.heap.size w w' := by
  obtain ⟨W0, HW⟩ : ∃ W0, Hid ((((w.alloc (.cells #[.int .u64 (lo (Int.natAbs (a))), .string (bg (Int.natAbs (a))), .bool (decide ((a) < 0))] 34)).alloc (.cells #[.int .u64 (lo (Int.natAbs (b))), .string (bg (Int.natAbs (b))), .bool (decide ((b) < 0))] 34)).alloc (.cells #[.int .u64 0, .string ⟨#[]⟩, .bool false] 34)) = W0) := ⟨_, Lib.hid rfl⟩
  have HS := Lib.hid (show w.heap.size + 3 = W0.heap.size by rw [← HW.out]; simp)
  have z0 : w.heap.size < W0.heap.size := by rw [← HS.out]; omega
  have z1 : w.heap.size + 1 < W0.heap.size := by rw [← HS.out]; omega
  have z2 : w.heap.size + 1 + 1 < W0.heap.size := by rw [← HS.out]; omega
  have c0_0 : W0.cell? ⟨w.heap.size, 0, none⟩ = some (.int .u64 (lo (Int.natAbs (a)))) := by rw [← HW.out]; simp [go_sem]
  have c0_1 : W0.cell? ⟨w.heap.size, 1, none⟩ = some (.string (bg (Int.natAbs (a)))) := by rw [← HW.out]; simp [go_sem]
  have c0_2 : W0.cell? ⟨w.heap.size, 2, none⟩ = some (.bool (decide ((a) < 0))) := by rw [← HW.out]; simp [go_sem]
  have c1_0 : W0.cell? ⟨w.heap.size + 1, 0, none⟩ = some (.int .u64 (lo (Int.natAbs (b)))) := by rw [← HW.out]; simp [go_sem]
  have c1_1 : W0.cell? ⟨w.heap.size + 1, 1, none⟩ = some (.string (bg (Int.natAbs (b)))) := by rw [← HW.out]; simp [go_sem]
  have c1_2 : W0.cell? ⟨w.heap.size + 1, 2, none⟩ = some (.bool (decide ((b) < 0))) := by rw [← HW.out]; simp [go_sem]
  have c2_0 : W0.cell? ⟨w.heap.size + 1 + 1, 0, none⟩ = some (.int .u64 0) := by rw [← HW.out]; simp [go_sem]
  have c2_1 : W0.cell? ⟨w.heap.size + 1 + 1, 1, none⟩ = some (.string ⟨#[]⟩) := by rw [← HW.out]; simp [go_sem]
  have c2_2 : W0.cell? ⟨w.heap.size + 1 + 1, 2, none⟩ = some (.bool false) := by rw [← HW.out]; simp [go_sem]
  have f_0 : W0.frozen? ⟨w.heap.size + 1 + 1, 0, none⟩ = false := by rw [← HW.out]; simp [go_sem]
  have f_1 : W0.frozen? ⟨w.heap.size + 1 + 1, 1, none⟩ = false := by rw [← HW.out]; simp [go_sem]
  have f_2 : W0.frozen? ⟨w.heap.size + 1 + 1, 2, none⟩ = false := by rw [← HW.out]; simp [go_sem]
  have hbw : Below w.heap.size w W0 := by rw [← HW.out]; exact (((Below.refl _ _).alloc (Nat.le_refl _) _).alloc (by simp) _).alloc (by simp; omega) _
  have HR : Hid (∀ w1 : World, Below W0.heap.size W0 w1 → w1.cell? ⟨w.heap.size, 0, none⟩ = some (.int .u64 (lo (Int.natAbs (a)))) ∧ w1.cell? ⟨w.heap.size, 1, none⟩ = some (.string (bg (Int.natAbs (a)))) ∧ w1.cell? ⟨w.heap.size, 2, none⟩ = some (.bool (decide ((a) < 0))) ∧ w1.cell? ⟨w.heap.size + 1, 0, none⟩ = some (.int .u64 (lo (Int.natAbs (b)))) ∧ w1.cell? ⟨w.heap.size + 1, 1, none⟩ = some (.string (bg (Int.natAbs (b)))) ∧ w1.cell? ⟨w.heap.size + 1, 2, none⟩ = some (.bool (decide ((b) < 0))) ∧ w1.cell? ⟨w.heap.size + 1 + 1, 0, none⟩ = some (.int .u64 0) ∧ w1.cell? ⟨w.heap.size + 1 + 1, 1, none⟩ = some (.string ⟨#[]⟩) ∧ w1.cell? ⟨w.heap.size + 1 + 1, 2, none⟩ = some (.bool false) ∧ w1.frozen? ⟨w.heap.size + 1 + 1, 0, none⟩ = false ∧ w1.frozen? ⟨w.heap.size + 1 + 1, 1, none⟩ = false ∧ w1.frozen? ⟨w.heap.size + 1 + 1, 2, none⟩ = false ∧ Below w.heap.size w w1) := fun w1 hb => ⟨(held W0 w1 hb _ _ z0).trans c0_0, (held W0 w1 hb _ _ z0).trans c0_1, (held W0 w1 hb _ _ z0).trans c0_2, (held W0 w1 hb _ _ z1).trans c1_0, (held W0 w1 hb _ _ z1).trans c1_1, (held W0 w1 hb _ _ z1).trans c1_2, (held W0 w1 hb _ _ z2).trans c2_0, (held W0 w1 hb _ _ z2).trans c2_1, (held W0 w1 hb _ _ z2).trans c2_2, (heldf W0 w1 hb _ _ z2).trans f_0, (heldf W0 w1 hb _ _ z2).trans f_1, (heldf W0 w1 hb _ _ z2).trans f_2, grow hbw hb⟩
  have HBW := Lib.hid hbw
  clear hbw
  obtain ⟨z, HZ⟩ : ∃ z, Hid (a * b = z) := ⟨_, Lib.hid rfl⟩
  rw [HZ.out]
  go_enter Tryz.func71, Tryz.ntmps71
  go_wp2_with fail
  rw [HW.out]
  refine (times_any a b W0 ha hb).mono ?_
  rintro e w1 ⟨rfl, hb1⟩
  rw [HZ.out]
  clear c0_0 c0_1 c0_2 c1_0 c1_1 c1_2 c2_0 c2_1 c2_2 f_0 f_1 f_2 HBW; obtain ⟨c0_0, c0_1, c0_2, c1_0, c1_1, c1_2, c2_0, c2_1, c2_2, f_0, f_1, f_2, hbw⟩ := HR.out w1 (hb1); have HBW := Lib.hid hbw; clear hbw
  clear hb1
  go_wp2
  exact bodyPost_ret (v := (Value.agg #[.int .u64 (lo (Int.natAbs (z))), .string (bg (Int.natAbs (z))), .bool (decide ((z) < 0))])) (by simp [results, Tryz.results71, go_sem, c2_0, c2_1, c2_2]) rfl ⟨rfl, by first | exact sc3 (HBW.out) (by show w.heap.size ≤ w.heap.size + 1 + 1; omega) | exact (sc3 (HBW.out) (by show w.heap.size ≤ w.heap.size + 1 + 1; omega)).drew⟩

theorem iadd_any (a b : Int) (w : World) (ha : wl a.natAbs ≤ 274877906944) (hb : wl b.natAbs ≤ 274877906944) :
    Calls Tryz.prog 83 #[(Value.agg #[.int .u64 (lo (Int.natAbs (a))), .string (bg (Int.natAbs (a))), .bool (decide ((a) < 0))]), (Value.agg #[.int .u64 (lo (Int.natAbs (b))), .string (bg (Int.natAbs (b))), .bool (decide ((b) < 0))])] w fun e w' => e = .returned (Value.agg #[.int .u64 (lo (Int.natAbs (a + b))), .string (bg (Int.natAbs (a + b))), .bool (decide ((a + b) < 0))]) ∧ Below w.heap.size w w' := by
  obtain ⟨W0, HW⟩ : ∃ W0, Hid ((((w.alloc (.cells #[.int .u64 (lo (Int.natAbs (a))), .string (bg (Int.natAbs (a))), .bool (decide ((a) < 0))] 34)).alloc (.cells #[.int .u64 (lo (Int.natAbs (b))), .string (bg (Int.natAbs (b))), .bool (decide ((b) < 0))] 34)).alloc (.cells #[.int .u64 0, .string ⟨#[]⟩, .bool false] 34)) = W0) := ⟨_, Lib.hid rfl⟩
  have HS := Lib.hid (show w.heap.size + 3 = W0.heap.size by rw [← HW.out]; simp)
  have z0 : w.heap.size < W0.heap.size := by rw [← HS.out]; omega
  have z1 : w.heap.size + 1 < W0.heap.size := by rw [← HS.out]; omega
  have z2 : w.heap.size + 1 + 1 < W0.heap.size := by rw [← HS.out]; omega
  have c0_0 : W0.cell? ⟨w.heap.size, 0, none⟩ = some (.int .u64 (lo (Int.natAbs (a)))) := by rw [← HW.out]; simp [go_sem]
  have c0_1 : W0.cell? ⟨w.heap.size, 1, none⟩ = some (.string (bg (Int.natAbs (a)))) := by rw [← HW.out]; simp [go_sem]
  have c0_2 : W0.cell? ⟨w.heap.size, 2, none⟩ = some (.bool (decide ((a) < 0))) := by rw [← HW.out]; simp [go_sem]
  have c1_0 : W0.cell? ⟨w.heap.size + 1, 0, none⟩ = some (.int .u64 (lo (Int.natAbs (b)))) := by rw [← HW.out]; simp [go_sem]
  have c1_1 : W0.cell? ⟨w.heap.size + 1, 1, none⟩ = some (.string (bg (Int.natAbs (b)))) := by rw [← HW.out]; simp [go_sem]
  have c1_2 : W0.cell? ⟨w.heap.size + 1, 2, none⟩ = some (.bool (decide ((b) < 0))) := by rw [← HW.out]; simp [go_sem]
  have c2_0 : W0.cell? ⟨w.heap.size + 1 + 1, 0, none⟩ = some (.int .u64 0) := by rw [← HW.out]; simp [go_sem]
  have c2_1 : W0.cell? ⟨w.heap.size + 1 + 1, 1, none⟩ = some (.string ⟨#[]⟩) := by rw [← HW.out]; simp [go_sem]
  have c2_2 : W0.cell? ⟨w.heap.size + 1 + 1, 2, none⟩ = some (.bool false) := by rw [← HW.out]; simp [go_sem]
  have f_0 : W0.frozen? ⟨w.heap.size + 1 + 1, 0, none⟩ = false := by rw [← HW.out]; simp [go_sem]
  have f_1 : W0.frozen? ⟨w.heap.size + 1 + 1, 1, none⟩ = false := by rw [← HW.out]; simp [go_sem]
  have f_2 : W0.frozen? ⟨w.heap.size + 1 + 1, 2, none⟩ = false := by rw [← HW.out]; simp [go_sem]
  have hbw : Below w.heap.size w W0 := by rw [← HW.out]; exact (((Below.refl _ _).alloc (Nat.le_refl _) _).alloc (by simp) _).alloc (by simp; omega) _
  have HR : Hid (∀ w1 : World, Below W0.heap.size W0 w1 → w1.cell? ⟨w.heap.size, 0, none⟩ = some (.int .u64 (lo (Int.natAbs (a)))) ∧ w1.cell? ⟨w.heap.size, 1, none⟩ = some (.string (bg (Int.natAbs (a)))) ∧ w1.cell? ⟨w.heap.size, 2, none⟩ = some (.bool (decide ((a) < 0))) ∧ w1.cell? ⟨w.heap.size + 1, 0, none⟩ = some (.int .u64 (lo (Int.natAbs (b)))) ∧ w1.cell? ⟨w.heap.size + 1, 1, none⟩ = some (.string (bg (Int.natAbs (b)))) ∧ w1.cell? ⟨w.heap.size + 1, 2, none⟩ = some (.bool (decide ((b) < 0))) ∧ w1.cell? ⟨w.heap.size + 1 + 1, 0, none⟩ = some (.int .u64 0) ∧ w1.cell? ⟨w.heap.size + 1 + 1, 1, none⟩ = some (.string ⟨#[]⟩) ∧ w1.cell? ⟨w.heap.size + 1 + 1, 2, none⟩ = some (.bool false) ∧ w1.frozen? ⟨w.heap.size + 1 + 1, 0, none⟩ = false ∧ w1.frozen? ⟨w.heap.size + 1 + 1, 1, none⟩ = false ∧ w1.frozen? ⟨w.heap.size + 1 + 1, 2, none⟩ = false ∧ Below w.heap.size w w1) := fun w1 hb => ⟨(held W0 w1 hb _ _ z0).trans c0_0, (held W0 w1 hb _ _ z0).trans c0_1, (held W0 w1 hb _ _ z0).trans c0_2, (held W0 w1 hb _ _ z1).trans c1_0, (held W0 w1 hb _ _ z1).trans c1_1, (held W0 w1 hb _ _ z1).trans c1_2, (held W0 w1 hb _ _ z2).trans c2_0, (held W0 w1 hb _ _ z2).trans c2_1, (held W0 w1 hb _ _ z2).trans c2_2, (heldf W0 w1 hb _ _ z2).trans f_0, (heldf W0 w1 hb _ _ z2).trans f_1, (heldf W0 w1 hb _ _ z2).trans f_2, grow hbw hb⟩
  have HBW := Lib.hid hbw
  clear hbw
  obtain ⟨z, HZ⟩ : ∃ z, Hid (a + b = z) := ⟨_, Lib.hid rfl⟩
  rw [HZ.out]
  go_enter Tryz.func83, Tryz.ntmps83
  go_wp2_with fail
  rw [HW.out]
  refine (told_plus a b W0 ha hb).mono ?_
  rintro e w1 ⟨rfl, hb1⟩
  rw [HZ.out]
  clear c0_0 c0_1 c0_2 c1_0 c1_1 c1_2 c2_0 c2_1 c2_2 f_0 f_1 f_2 HBW; obtain ⟨c0_0, c0_1, c0_2, c1_0, c1_1, c1_2, c2_0, c2_1, c2_2, f_0, f_1, f_2, hbw⟩ := HR.out w1 (hb1); have HBW := Lib.hid hbw; clear hbw
  clear hb1
  go_wp2
  exact bodyPost_ret (v := (Value.agg #[.int .u64 (lo (Int.natAbs (z))), .string (bg (Int.natAbs (z))), .bool (decide ((z) < 0))])) (by simp [results, Tryz.results83, go_sem, c2_0, c2_1, c2_2]) rfl ⟨rfl, by first | exact sc3 (HBW.out) (by show w.heap.size ≤ w.heap.size + 1 + 1; omega) | exact (sc3 (HBW.out) (by show w.heap.size ≤ w.heap.size + 1 + 1; omega)).drew⟩

theorem imul_any (a b : Int) (w : World) (ha : wl a.natAbs ≤ 274877906944) (hb : wl b.natAbs ≤ 274877906944) :
    Calls Tryz.prog 47 #[(Value.agg #[.int .u64 (lo (Int.natAbs (a))), .string (bg (Int.natAbs (a))), .bool (decide ((a) < 0))]), (Value.agg #[.int .u64 (lo (Int.natAbs (b))), .string (bg (Int.natAbs (b))), .bool (decide ((b) < 0))])] w fun e w' => e = .returned (Value.agg #[.int .u64 (lo (Int.natAbs (a * b))), .string (bg (Int.natAbs (a * b))), .bool (decide ((a * b) < 0))]) ∧ Below w.heap.size w w' := by
  obtain ⟨W0, HW⟩ : ∃ W0, Hid ((((w.alloc (.cells #[.int .u64 (lo (Int.natAbs (a))), .string (bg (Int.natAbs (a))), .bool (decide ((a) < 0))] 34)).alloc (.cells #[.int .u64 (lo (Int.natAbs (b))), .string (bg (Int.natAbs (b))), .bool (decide ((b) < 0))] 34)).alloc (.cells #[.int .u64 0, .string ⟨#[]⟩, .bool false] 34)) = W0) := ⟨_, Lib.hid rfl⟩
  have HS := Lib.hid (show w.heap.size + 3 = W0.heap.size by rw [← HW.out]; simp)
  have z0 : w.heap.size < W0.heap.size := by rw [← HS.out]; omega
  have z1 : w.heap.size + 1 < W0.heap.size := by rw [← HS.out]; omega
  have z2 : w.heap.size + 1 + 1 < W0.heap.size := by rw [← HS.out]; omega
  have c0_0 : W0.cell? ⟨w.heap.size, 0, none⟩ = some (.int .u64 (lo (Int.natAbs (a)))) := by rw [← HW.out]; simp [go_sem]
  have c0_1 : W0.cell? ⟨w.heap.size, 1, none⟩ = some (.string (bg (Int.natAbs (a)))) := by rw [← HW.out]; simp [go_sem]
  have c0_2 : W0.cell? ⟨w.heap.size, 2, none⟩ = some (.bool (decide ((a) < 0))) := by rw [← HW.out]; simp [go_sem]
  have c1_0 : W0.cell? ⟨w.heap.size + 1, 0, none⟩ = some (.int .u64 (lo (Int.natAbs (b)))) := by rw [← HW.out]; simp [go_sem]
  have c1_1 : W0.cell? ⟨w.heap.size + 1, 1, none⟩ = some (.string (bg (Int.natAbs (b)))) := by rw [← HW.out]; simp [go_sem]
  have c1_2 : W0.cell? ⟨w.heap.size + 1, 2, none⟩ = some (.bool (decide ((b) < 0))) := by rw [← HW.out]; simp [go_sem]
  have c2_0 : W0.cell? ⟨w.heap.size + 1 + 1, 0, none⟩ = some (.int .u64 0) := by rw [← HW.out]; simp [go_sem]
  have c2_1 : W0.cell? ⟨w.heap.size + 1 + 1, 1, none⟩ = some (.string ⟨#[]⟩) := by rw [← HW.out]; simp [go_sem]
  have c2_2 : W0.cell? ⟨w.heap.size + 1 + 1, 2, none⟩ = some (.bool false) := by rw [← HW.out]; simp [go_sem]
  have f_0 : W0.frozen? ⟨w.heap.size + 1 + 1, 0, none⟩ = false := by rw [← HW.out]; simp [go_sem]
  have f_1 : W0.frozen? ⟨w.heap.size + 1 + 1, 1, none⟩ = false := by rw [← HW.out]; simp [go_sem]
  have f_2 : W0.frozen? ⟨w.heap.size + 1 + 1, 2, none⟩ = false := by rw [← HW.out]; simp [go_sem]
  have hbw : Below w.heap.size w W0 := by rw [← HW.out]; exact (((Below.refl _ _).alloc (Nat.le_refl _) _).alloc (by simp) _).alloc (by simp; omega) _
  have HR : Hid (∀ w1 : World, Below W0.heap.size W0 w1 → w1.cell? ⟨w.heap.size, 0, none⟩ = some (.int .u64 (lo (Int.natAbs (a)))) ∧ w1.cell? ⟨w.heap.size, 1, none⟩ = some (.string (bg (Int.natAbs (a)))) ∧ w1.cell? ⟨w.heap.size, 2, none⟩ = some (.bool (decide ((a) < 0))) ∧ w1.cell? ⟨w.heap.size + 1, 0, none⟩ = some (.int .u64 (lo (Int.natAbs (b)))) ∧ w1.cell? ⟨w.heap.size + 1, 1, none⟩ = some (.string (bg (Int.natAbs (b)))) ∧ w1.cell? ⟨w.heap.size + 1, 2, none⟩ = some (.bool (decide ((b) < 0))) ∧ w1.cell? ⟨w.heap.size + 1 + 1, 0, none⟩ = some (.int .u64 0) ∧ w1.cell? ⟨w.heap.size + 1 + 1, 1, none⟩ = some (.string ⟨#[]⟩) ∧ w1.cell? ⟨w.heap.size + 1 + 1, 2, none⟩ = some (.bool false) ∧ w1.frozen? ⟨w.heap.size + 1 + 1, 0, none⟩ = false ∧ w1.frozen? ⟨w.heap.size + 1 + 1, 1, none⟩ = false ∧ w1.frozen? ⟨w.heap.size + 1 + 1, 2, none⟩ = false ∧ Below w.heap.size w w1) := fun w1 hb => ⟨(held W0 w1 hb _ _ z0).trans c0_0, (held W0 w1 hb _ _ z0).trans c0_1, (held W0 w1 hb _ _ z0).trans c0_2, (held W0 w1 hb _ _ z1).trans c1_0, (held W0 w1 hb _ _ z1).trans c1_1, (held W0 w1 hb _ _ z1).trans c1_2, (held W0 w1 hb _ _ z2).trans c2_0, (held W0 w1 hb _ _ z2).trans c2_1, (held W0 w1 hb _ _ z2).trans c2_2, (heldf W0 w1 hb _ _ z2).trans f_0, (heldf W0 w1 hb _ _ z2).trans f_1, (heldf W0 w1 hb _ _ z2).trans f_2, grow hbw hb⟩
  have HBW := Lib.hid hbw
  clear hbw
  obtain ⟨z, HZ⟩ : ∃ z, Hid (a * b = z) := ⟨_, Lib.hid rfl⟩
  rw [HZ.out]
  go_enter Tryz.func47, Tryz.ntmps47
  go_wp2_with fail
  rw [HW.out]
  refine (told_times a b W0 ha hb).mono ?_
  rintro e w1 ⟨rfl, hb1⟩
  rw [HZ.out]
  clear c0_0 c0_1 c0_2 c1_0 c1_1 c1_2 c2_0 c2_1 c2_2 f_0 f_1 f_2 HBW; obtain ⟨c0_0, c0_1, c0_2, c1_0, c1_1, c1_2, c2_0, c2_1, c2_2, f_0, f_1, f_2, hbw⟩ := HR.out w1 (hb1); have HBW := Lib.hid hbw; clear hbw
  clear hb1
  go_wp2
  exact bodyPost_ret (v := (Value.agg #[.int .u64 (lo (Int.natAbs (z))), .string (bg (Int.natAbs (z))), .bool (decide ((z) < 0))])) (by simp [results, Tryz.results47, go_sem, c2_0, c2_1, c2_2]) rfl ⟨rfl, by first | exact sc3 (HBW.out) (by show w.heap.size ≤ w.heap.size + 1 + 1; omega) | exact (sc3 (HBW.out) (by show w.heap.size ≤ w.heap.size + 1 + 1; omega)).drew⟩

end Go.Proofs.YtenpbnmmadbkdaaGreat


/- ints: Sub, Cmp, Of: what they return. -/
namespace Go.Proofs.YtenpbnmmadbkdaaGreat
open Go.RowKit

set_option maxHeartbeats 1000000 in
theorem isub_any (a b : Int) (w : World) (ha : wl a.natAbs ≤ 274877906944) (hb : wl b.natAbs ≤ 274877906944) :
    Calls Tryz.prog 97 #[(Value.agg #[.int .u64 (lo (Int.natAbs (a))), .string (bg (Int.natAbs (a))), .bool (decide ((a) < 0))]), (Value.agg #[.int .u64 (lo (Int.natAbs (b))), .string (bg (Int.natAbs (b))), .bool (decide ((b) < 0))])] w fun e w' => e = .returned (Value.agg #[.int .u64 (lo (Int.natAbs (a - b))), .string (bg (Int.natAbs (a - b))), .bool (decide ((a - b) < 0))]) ∧ Below w.heap.size w w' := by
  obtain ⟨W0, HW⟩ : ∃ W0, Hid ((((w.alloc (.cells #[.int .u64 (lo (Int.natAbs (a))), .string (bg (Int.natAbs (a))), .bool (decide ((a) < 0))] 34)).alloc (.cells #[.int .u64 (lo (Int.natAbs (b))), .string (bg (Int.natAbs (b))), .bool (decide ((b) < 0))] 34)).alloc (.cells #[.int .u64 0, .string ⟨#[]⟩, .bool false] 34)) = W0) := ⟨_, Lib.hid rfl⟩
  have HS := Lib.hid (show w.heap.size + 3 = W0.heap.size by rw [← HW.out]; simp)
  have z0 : w.heap.size < W0.heap.size := by rw [← HS.out]; omega
  have z1 : w.heap.size + 1 < W0.heap.size := by rw [← HS.out]; omega
  have z2 : w.heap.size + 1 + 1 < W0.heap.size := by rw [← HS.out]; omega
  have c0_0 : W0.cell? ⟨w.heap.size, 0, none⟩ = some (.int .u64 (lo (Int.natAbs (a)))) := by rw [← HW.out]; simp [go_sem]
  have c0_1 : W0.cell? ⟨w.heap.size, 1, none⟩ = some (.string (bg (Int.natAbs (a)))) := by rw [← HW.out]; simp [go_sem]
  have c0_2 : W0.cell? ⟨w.heap.size, 2, none⟩ = some (.bool (decide ((a) < 0))) := by rw [← HW.out]; simp [go_sem]
  have c1_0 : W0.cell? ⟨w.heap.size + 1, 0, none⟩ = some (.int .u64 (lo (Int.natAbs (b)))) := by rw [← HW.out]; simp [go_sem]
  have c1_1 : W0.cell? ⟨w.heap.size + 1, 1, none⟩ = some (.string (bg (Int.natAbs (b)))) := by rw [← HW.out]; simp [go_sem]
  have c1_2 : W0.cell? ⟨w.heap.size + 1, 2, none⟩ = some (.bool (decide ((b) < 0))) := by rw [← HW.out]; simp [go_sem]
  have c2_0 : W0.cell? ⟨w.heap.size + 1 + 1, 0, none⟩ = some (.int .u64 0) := by rw [← HW.out]; simp [go_sem]
  have c2_1 : W0.cell? ⟨w.heap.size + 1 + 1, 1, none⟩ = some (.string ⟨#[]⟩) := by rw [← HW.out]; simp [go_sem]
  have c2_2 : W0.cell? ⟨w.heap.size + 1 + 1, 2, none⟩ = some (.bool false) := by rw [← HW.out]; simp [go_sem]
  have f_0 : W0.frozen? ⟨w.heap.size + 1 + 1, 0, none⟩ = false := by rw [← HW.out]; simp [go_sem]
  have f_1 : W0.frozen? ⟨w.heap.size + 1 + 1, 1, none⟩ = false := by rw [← HW.out]; simp [go_sem]
  have f_2 : W0.frozen? ⟨w.heap.size + 1 + 1, 2, none⟩ = false := by rw [← HW.out]; simp [go_sem]
  have hbw : Below w.heap.size w W0 := by rw [← HW.out]; exact (((Below.refl _ _).alloc (Nat.le_refl _) _).alloc (by simp) _).alloc (by simp; omega) _
  have HR : Hid (∀ w1 : World, Below W0.heap.size W0 w1 → w1.cell? ⟨w.heap.size, 0, none⟩ = some (.int .u64 (lo (Int.natAbs (a)))) ∧ w1.cell? ⟨w.heap.size, 1, none⟩ = some (.string (bg (Int.natAbs (a)))) ∧ w1.cell? ⟨w.heap.size, 2, none⟩ = some (.bool (decide ((a) < 0))) ∧ w1.cell? ⟨w.heap.size + 1, 0, none⟩ = some (.int .u64 (lo (Int.natAbs (b)))) ∧ w1.cell? ⟨w.heap.size + 1, 1, none⟩ = some (.string (bg (Int.natAbs (b)))) ∧ w1.cell? ⟨w.heap.size + 1, 2, none⟩ = some (.bool (decide ((b) < 0))) ∧ w1.cell? ⟨w.heap.size + 1 + 1, 0, none⟩ = some (.int .u64 0) ∧ w1.cell? ⟨w.heap.size + 1 + 1, 1, none⟩ = some (.string ⟨#[]⟩) ∧ w1.cell? ⟨w.heap.size + 1 + 1, 2, none⟩ = some (.bool false) ∧ w1.frozen? ⟨w.heap.size + 1 + 1, 0, none⟩ = false ∧ w1.frozen? ⟨w.heap.size + 1 + 1, 1, none⟩ = false ∧ w1.frozen? ⟨w.heap.size + 1 + 1, 2, none⟩ = false ∧ Below w.heap.size w w1) := fun w1 hb => ⟨(held W0 w1 hb _ _ z0).trans c0_0, (held W0 w1 hb _ _ z0).trans c0_1, (held W0 w1 hb _ _ z0).trans c0_2, (held W0 w1 hb _ _ z1).trans c1_0, (held W0 w1 hb _ _ z1).trans c1_1, (held W0 w1 hb _ _ z1).trans c1_2, (held W0 w1 hb _ _ z2).trans c2_0, (held W0 w1 hb _ _ z2).trans c2_1, (held W0 w1 hb _ _ z2).trans c2_2, (heldf W0 w1 hb _ _ z2).trans f_0, (heldf W0 w1 hb _ _ z2).trans f_1, (heldf W0 w1 hb _ _ z2).trans f_2, grow hbw hb⟩
  have HBW := Lib.hid hbw
  clear hbw
  obtain ⟨z, HZ⟩ : ∃ z, Hid (a + -b = z) := ⟨_, Lib.hid rfl⟩
  rw [show a - b = z from by rw [← HZ.out]; omega]
  have HNB : Hid (wl (-b).natAbs ≤ 274877906944) := by
    show wl (-b).natAbs ≤ 274877906944
    rw [Int.natAbs_neg]; exact hb
  obtain ⟨c, HC1⟩ : ∃ c, Hid (-b = c) := ⟨_, Lib.hid rfl⟩
  rw [HC1.out] at HZ HNB
  go_enter Tryz.func97, Tryz.ntmps97
  go_wp2_with fail
  rw [HW.out]
  have hlaw := heldat (w.heap.size + 1 + 1) W0
  have y0 : w.heap.size < w.heap.size + 1 + 1 := by omega
  have y1 : w.heap.size + 1 < w.heap.size + 1 + 1 := by omega
  have HC : Hid (w.heap.size + 1 + 1 ≤ W0.heap.size) := Nat.le_of_lt z2
  go_region_held3 (fun w' => Below (w.heap.size + 1 + 1) W0 w')
    (first | exact (Below.refl _ _).drew | assumption | exact (((by assumption : Below (w.heap.size + 1 + 1) W0 _).setCell (Nat.le_refl _) _).setCell (Nat.le_refl _) _).setCell (Nat.le_refl _) _)
    (first
    | (go_at_call 88; refine (neg_any b _).mono ?_; rintro e w1 ⟨rfl, hb1⟩; rw [HC1.out]; have hB1 : Hid (Below W0.heap.size W0 w1) := ((Below.refl _ _).drew).trans hb1; have hC1 := hB1.out.mono HC.out; clear hb1)
    | (go_at_call 71; refine (told_plus a c _ ha HNB.out).mono ?_; rintro e w2 ⟨rfl, hb2⟩; rw [HZ.out]; have hB2 : Hid (Below W0.heap.size W0 w2) := grow hB1.out hb2; have hC2 := hB2.out.mono HC.out; clear hb2; clear c0_0 c0_1 c0_2 c1_0 c1_1 c1_2 c2_0 c2_1 c2_2 f_0 f_1 f_2 HBW; obtain ⟨c0_0, c0_1, c0_2, c1_0, c1_1, c1_2, c2_0, c2_1, c2_2, f_0, f_1, f_2, hbw⟩ := HR.out w2 (hB2.out); have HBW := Lib.hid hbw; clear hbw))
  all_goals
    go_wp2
    exact bodyPost_ret (v := (Value.agg #[.int .u64 (lo (Int.natAbs (z))), .string (bg (Int.natAbs (z))), .bool (decide ((z) < 0))])) (by simp [results, Tryz.results97, go_sem, c2_0, c2_1, c2_2]) rfl ⟨rfl, by first | exact sc3 (HBW.out) (by show w.heap.size ≤ w.heap.size + 1 + 1; omega) | exact (sc3 (HBW.out) (by show w.heap.size ≤ w.heap.size + 1 + 1; omega)).drew⟩

theorem icmp_any (a b : Int) (w : World) (ha : wl a.natAbs ≤ 274877906944) (hb : wl b.natAbs ≤ 274877906944) :
    Calls Tryz.prog 67 #[(Value.agg #[.int .u64 (lo (Int.natAbs (a))), .string (bg (Int.natAbs (a))), .bool (decide ((a) < 0))]), (Value.agg #[.int .u64 (lo (Int.natAbs (b))), .string (bg (Int.natAbs (b))), .bool (decide ((b) < 0))])] w fun e w' => e = .returned (.int .i64 (sgI (a - b))) ∧ Below w.heap.size w w' := by
  obtain ⟨W0, HW⟩ : ∃ W0, Hid (((w.alloc (.cells #[.int .u64 (lo (Int.natAbs (a))), .string (bg (Int.natAbs (a))), .bool (decide ((a) < 0))] 34)).alloc (.cells #[.int .u64 (lo (Int.natAbs (b))), .string (bg (Int.natAbs (b))), .bool (decide ((b) < 0))] 34)) = W0) := ⟨_, Lib.hid rfl⟩
  have HS := Lib.hid (show w.heap.size + 2 = W0.heap.size by rw [← HW.out]; simp)
  have z0 : w.heap.size < W0.heap.size := by rw [← HS.out]; omega
  have z1 : w.heap.size + 1 < W0.heap.size := by rw [← HS.out]; omega
  have c0_0 : W0.cell? ⟨w.heap.size, 0, none⟩ = some (.int .u64 (lo (Int.natAbs (a)))) := by rw [← HW.out]; simp [go_sem]
  have c0_1 : W0.cell? ⟨w.heap.size, 1, none⟩ = some (.string (bg (Int.natAbs (a)))) := by rw [← HW.out]; simp [go_sem]
  have c0_2 : W0.cell? ⟨w.heap.size, 2, none⟩ = some (.bool (decide ((a) < 0))) := by rw [← HW.out]; simp [go_sem]
  have c1_0 : W0.cell? ⟨w.heap.size + 1, 0, none⟩ = some (.int .u64 (lo (Int.natAbs (b)))) := by rw [← HW.out]; simp [go_sem]
  have c1_1 : W0.cell? ⟨w.heap.size + 1, 1, none⟩ = some (.string (bg (Int.natAbs (b)))) := by rw [← HW.out]; simp [go_sem]
  have c1_2 : W0.cell? ⟨w.heap.size + 1, 2, none⟩ = some (.bool (decide ((b) < 0))) := by rw [← HW.out]; simp [go_sem]
  have f_0 : W0.frozen? ⟨w.heap.size + 1, 0, none⟩ = false := by rw [← HW.out]; simp [go_sem]
  have f_1 : W0.frozen? ⟨w.heap.size + 1, 1, none⟩ = false := by rw [← HW.out]; simp [go_sem]
  have f_2 : W0.frozen? ⟨w.heap.size + 1, 2, none⟩ = false := by rw [← HW.out]; simp [go_sem]
  have hbw : Below w.heap.size w W0 := by rw [← HW.out]; exact ((Below.refl _ _).alloc (Nat.le_refl _) _).alloc (by simp) _
  have HR : Hid (∀ w1 : World, Below W0.heap.size W0 w1 → w1.cell? ⟨w.heap.size, 0, none⟩ = some (.int .u64 (lo (Int.natAbs (a)))) ∧ w1.cell? ⟨w.heap.size, 1, none⟩ = some (.string (bg (Int.natAbs (a)))) ∧ w1.cell? ⟨w.heap.size, 2, none⟩ = some (.bool (decide ((a) < 0))) ∧ w1.cell? ⟨w.heap.size + 1, 0, none⟩ = some (.int .u64 (lo (Int.natAbs (b)))) ∧ w1.cell? ⟨w.heap.size + 1, 1, none⟩ = some (.string (bg (Int.natAbs (b)))) ∧ w1.cell? ⟨w.heap.size + 1, 2, none⟩ = some (.bool (decide ((b) < 0))) ∧ w1.frozen? ⟨w.heap.size + 1, 0, none⟩ = false ∧ w1.frozen? ⟨w.heap.size + 1, 1, none⟩ = false ∧ w1.frozen? ⟨w.heap.size + 1, 2, none⟩ = false ∧ Below w.heap.size w w1) := fun w1 hb => ⟨(held W0 w1 hb _ _ z0).trans c0_0, (held W0 w1 hb _ _ z0).trans c0_1, (held W0 w1 hb _ _ z0).trans c0_2, (held W0 w1 hb _ _ z1).trans c1_0, (held W0 w1 hb _ _ z1).trans c1_1, (held W0 w1 hb _ _ z1).trans c1_2, (heldf W0 w1 hb _ _ z1).trans f_0, (heldf W0 w1 hb _ _ z1).trans f_1, (heldf W0 w1 hb _ _ z1).trans f_2, grow hbw hb⟩
  have HBW := Lib.hid hbw
  clear hbw
  obtain ⟨z, HZ⟩ : ∃ z, Hid (a - b = z) := ⟨_, Lib.hid rfl⟩
  rw [HZ.out]
  go_enter Tryz.func67, Tryz.ntmps67
  go_wp2_with fail
  rw [HW.out]
  refine (isub_any a b W0 ha hb).mono ?_
  rintro e w1 ⟨rfl, hb1⟩
  rw [HZ.out]
  have HB1 := Lib.hid hb1
  clear hb1
  go_wp2_with fail
  refine (sign_int z w1).mono ?_
  rintro e w2 ⟨rfl, hb2⟩
  have hB2 := grow HB1.out hb2
  clear hb2
  clear c0_0 c0_1 c0_2 c1_0 c1_1 c1_2 f_0 f_1 f_2 HBW; obtain ⟨c0_0, c0_1, c0_2, c1_0, c1_1, c1_2, f_0, f_1, f_2, hbw⟩ := HR.out w2 (hB2); have HBW := Lib.hid hbw; clear hbw
  clear hB2
  go_wp2
  go_ret
  exact ⟨rfl, HBW.out⟩
end Go.Proofs.YtenpbnmmadbkdaaGreat


/- The contracts of nats and ints, each result under a name of the caller's. -/
namespace Go.Proofs.YtenpbnmmadbkdaaGreat
open Go.RowKit
theorem sgI_neg (n : Int) : (sgI n < 0) = (n < 0) := by
  unfold sgI
  by_cases h : n = 0
  · simp [h]
  · by_cases h2 : n < 0 <;> simp [h, h2]
theorem zgcd (a b z : Nat) (w : World) (hz : Nat.gcd a b = z) (ha : wl a ≤ 549755813888) (hb : wl b ≤ 549755813888) :
    Calls Tryz.prog 73 #[(Value.agg #[.int .u64 (lo (a)), .string (bg (a))]), (Value.agg #[.int .u64 (lo (b)), .string (bg (b))])] w fun e w' => e = .returned (Value.agg #[.int .u64 (lo (z)), .string (bg (z))]) ∧ Below w.heap.size w w' := hz ▸ gcd_any a b w ha hb
theorem zdiv (a b q r : Nat) (w : World) (hq : a / b = q) (hr : a % b = r) (h0 : 0 < b) (ha : wl a ≤ 549755813888) (hb : wl b ≤ 549755813888) :
    Calls Tryz.prog 75 #[(Value.agg #[.int .u64 (lo (a)), .string (bg (a))]), (Value.agg #[.int .u64 (lo (b)), .string (bg (b))])] w fun e w' => e = .returned (.tuple #[(Value.agg #[.int .u64 (lo (q)), .string (bg (q))]), (Value.agg #[.int .u64 (lo (r)), .string (bg (r))]), .bool true]) ∧ Below w.heap.size w w' := by
  subst hq hr
  refine (div_any a b w ha hb).mono ?_
  rintro e w' ⟨h1, h2⟩
  rw [if_neg (by omega)] at h1
  exact ⟨h1, h2⟩
theorem zsub (a b z : Nat) (w : World) (hz : a - b = z) (h0 : b ≤ a) (ha : wl a ≤ 1099511627776) (hb : wl b ≤ 1099511627776) :
    Calls Tryz.prog 76 #[(Value.agg #[.int .u64 (lo (a)), .string (bg (a))]), (Value.agg #[.int .u64 (lo (b)), .string (bg (b))])] w fun e w' => e = .returned (.tuple #[(Value.agg #[.int .u64 (lo (z)), .string (bg (z))]), .bool true]) ∧ Below w.heap.size w w' := by
  have h := sub_any a b w ha hb
  rw [hz, decide_eq_true h0] at h
  exact h
theorem zadd (a b z : Nat) (w : World) (hz : a + b = z) (ha : wl a ≤ 549755813888) (hb : wl b ≤ 549755813888) :
    Calls Tryz.prog 82 #[(Value.agg #[.int .u64 (lo (a)), .string (bg (a))]), (Value.agg #[.int .u64 (lo (b)), .string (bg (b))])] w fun e w' => e = .returned (Value.agg #[.int .u64 (lo (z)), .string (bg (z))]) ∧ Below w.heap.size w w' := hz ▸ add_any a b w ha hb
theorem zmul (a b z : Nat) (w : World) (hz : a * b = z) (ha : wl a ≤ 549755813888) (hb : wl b ≤ 549755813888) :
    Calls Tryz.prog 49 #[(Value.agg #[.int .u64 (lo (a)), .string (bg (a))]), (Value.agg #[.int .u64 (lo (b)), .string (bg (b))])] w fun e w' => e = .returned (Value.agg #[.int .u64 (lo (z)), .string (bg (z))]) ∧ Below w.heap.size w w' := hz ▸ mul_any a b w ha hb
theorem zof (n : Nat) (w : World) (h : n < 18446744073709551616) :
    Calls Tryz.prog 77 #[.int .u64 ((n : Nat) : Int)] w fun e w' => e = .returned (Value.agg #[.int .u64 (lo (n)), .string (bg (n))]) ∧ Below w.heap.size w w' := of_small n w (by omega) (by omega)
theorem wl_iadd (a b : Int) : wl (Int.natAbs (a + b)) ≤ max (wl a.natAbs) (wl b.natAbs) + 1 := Nat.le_trans (wl_mono (Int.natAbs_add_le a b)) (wl_add _ _)
theorem wl_imul (a b : Int) : wl (Int.natAbs (a * b)) ≤ wl a.natAbs + wl b.natAbs := by rw [Int.natAbs_mul]; exact wl_mul _ _
theorem ziadd (a b z : Int) (w : World) (hz : a + b = z) (ha : wl a.natAbs ≤ 274877906944) (hb : wl b.natAbs ≤ 274877906944) :
    Calls Tryz.prog 83 #[(Value.agg #[.int .u64 (lo (Int.natAbs (a))), .string (bg (Int.natAbs (a))), .bool (decide ((a) < 0))]), (Value.agg #[.int .u64 (lo (Int.natAbs (b))), .string (bg (Int.natAbs (b))), .bool (decide ((b) < 0))])] w fun e w' => e = .returned (Value.agg #[.int .u64 (lo (Int.natAbs (z))), .string (bg (Int.natAbs (z))), .bool (decide ((z) < 0))]) ∧ Below w.heap.size w w' := hz ▸ iadd_any a b w ha hb
theorem zimul (a b z : Int) (w : World) (hz : a * b = z) (ha : wl a.natAbs ≤ 274877906944) (hb : wl b.natAbs ≤ 274877906944) :
    Calls Tryz.prog 47 #[(Value.agg #[.int .u64 (lo (Int.natAbs (a))), .string (bg (Int.natAbs (a))), .bool (decide ((a) < 0))]), (Value.agg #[.int .u64 (lo (Int.natAbs (b))), .string (bg (Int.natAbs (b))), .bool (decide ((b) < 0))])] w fun e w' => e = .returned (Value.agg #[.int .u64 (lo (Int.natAbs (z))), .string (bg (Int.natAbs (z))), .bool (decide ((z) < 0))]) ∧ Below w.heap.size w w' := hz ▸ imul_any a b w ha hb
theorem zicmp (a b t : Int) (w : World) (ht : sgI (a - b) = t) (ha : wl a.natAbs ≤ 274877906944) (hb : wl b.natAbs ≤ 274877906944) :
    Calls Tryz.prog 67 #[(Value.agg #[.int .u64 (lo (Int.natAbs (a))), .string (bg (Int.natAbs (a))), .bool (decide ((a) < 0))]), (Value.agg #[.int .u64 (lo (Int.natAbs (b))), .string (bg (Int.natAbs (b))), .bool (decide ((b) < 0))])] w fun e w' => e = .returned (.int .i64 t) ∧ Below w.heap.size w w' := ht ▸ icmp_any a b w ha hb
theorem zineg (a z : Int) (w : World) (hz : -a = z) :
    Calls Tryz.prog 88 #[(Value.agg #[.int .u64 (lo (Int.natAbs (a))), .string (bg (Int.natAbs (a))), .bool (decide ((a) < 0))])] w fun e w' => e = .returned (Value.agg #[.int .u64 (lo (Int.natAbs (z))), .string (bg (Int.natAbs (z))), .bool (decide ((z) < 0))]) ∧ Below w.heap.size w w' := hz ▸ neg_any a w
theorem zisign (a t : Int) (w : World) (ht : sgI a = t) :
    Calls Tryz.prog 35 #[(Value.agg #[.int .u64 (lo (Int.natAbs (a))), .string (bg (Int.natAbs (a))), .bool (decide ((a) < 0))])] w fun e w' => e = .returned (.int .i64 t) ∧ Below w.heap.size w w' := ht ▸ sign_int a w
end Go.Proofs.YtenpbnmmadbkdaaGreat


/- fracs.lowest. -/
namespace Go.Proofs.YtenpbnmmadbkdaaGreat
open Go.RowKit
set_option linter.unusedSimpArgs false
set_option linter.unusedVariables false
attribute [local go_sem ↓] Go.wp_at_zero Go.wp_at_succ
set_option maxHeartbeats 1000000 in
theorem lowest_any (n : Int) (d : Nat) (q : Rat) (hq : Hid (mkRat n d = q)) (hd : 0 < d) (h1 : wl n.natAbs ≤ 274877906944) (h2 : wl d ≤ 274877906944) (w : World) :
    Calls Tryz.prog 48 #[(Value.agg #[.int .u64 (lo (Int.natAbs (n))), .string (bg (Int.natAbs (n))), .bool (decide ((n) < 0))]), (Value.agg #[.int .u64 (lo (d)), .string (bg (d))])] w fun e w' => e = .returned (.agg #[.int .u64 (lo q.num.natAbs), .string (bg q.num.natAbs), .bool (decide (q.num < 0)), .int .u64 (lo (q.den - 1)), .string (bg (q.den - 1))]) ∧ Below w.heap.size w w' := by
  have hqd : wl q.den ≤ 274877906944 := by rw [← hq.out, ← low_den n d hd]; have := wl_div d (Nat.gcd n.natAbs d); omega
  have hqp : 0 < q.den := q.den_pos
  go_enter Tryz.func48, Tryz.ntmps48
  -- region 0
  refine wp_seq_k fun K hK => ?_
  replace hK := Lib.hid hK
  refine wp_region_lit ?_
  go_wp2
  refine hK.out _ _ ?_; clear hK K
  show Code.wp _ _ _ _ _
  refine forgetW (fun w2 => Bx w2 (w.heap.size) 34 #[.int .u64 (lo (Int.natAbs (n))), .string (bg (Int.natAbs (n))), .bool (decide ((n) < 0))] ∧ Bx w2 (w.heap.size + 1) 30 #[.int .u64 (lo (d)), .string (bg (d))] ∧ Bx w2 (w.heap.size + 1 + 1) 36 #[.int .u64 0, .string ⟨#[]⟩, .bool false, .int .u64 0, .string ⟨#[]⟩] ∧ Below w.heap.size w w2) ⟨((Bx.at rfl).alloc _).alloc _, (Bx.at (by simp)).alloc _, Bx.at (by simp), (((Below.refl _ _).alloc (Nat.le_refl _) _).alloc (by simp) _).alloc (by simp; omega) _⟩ ?_
  rintro Wx ⟨bx0, bx1, bx2, HB⟩
  replace HB := Lib.hid HB
  -- region 1
  obtain ⟨u1, HZ1⟩ : ∃ z, Hid (Nat.gcd (Int.natAbs (n)) (d) = z) := ⟨_, Lib.hid rfl⟩
  have su1 : wl u1 ≤ 274877906944 := by rw [← HZ1.out]; have := wl_gcd (Int.natAbs (n)) (d); omega
  have lx0 := bx0.cells
  have lx1 := bx1.cells
  have BX0 := Lib.hid bx0
  have BX1 := Lib.hid bx1
  have BX2 := Lib.hid bx2
  clear bx0 bx1 bx2
  refine wp_seq_k fun K hK => ?_
  replace hK := Lib.hid hK
  refine wp_region_plan 5 [4] [] (fun _ => 5) (fun _ => .cells #[.int .u64 0, .string ⟨#[]⟩] 30) [(true, 0), (true, 2), (true, 1), (true, 3)] (by kernel_rfl) (by kernel_rfl) (by intro i hi; simp only [List.mem_cons, List.not_mem_nil, or_false] at hi; rcases hi with rfl <;> exact ⟨_, rfl, rfl, rfl, by simp, fun ρ w => by kernel_rfl⟩) (fun i hi => by cases hi) (fun _ _ _ _ _ h => h) (fun T hT => ?_)
  iterate 2
    refine wpPlan_takeL (v := ?_) rfl (by rfl) (fun w' hw => ?_) ?_
    rotate_left
    · go_simp
      with_reducible rfl
    simp only [Act.put, rA, rB, rC]
  refine wpPlan_callL rfl (by rfl) Tryz.call74 (fun w' hw => abs_any (n) _) (by rfl) ?_
  simp only [Act.put, rA, rB, rC]
  refine wpPlan_callL rfl (by rfl) Tryz.call73 (fun w' hw => zgcd (Int.natAbs (n)) (d) (u1) _ HZ1.out (by first | omega | exact Nat.le_trans (wl_small (by decide)) (by decide)) (by first | omega | exact Nat.le_trans (wl_small (by decide)) (by decide))) (by rfl) ?_
  simp only [Act.put, rA, rB, rC]
  refine wpPlan_nil (hT.out _ _ ?_); clear hT T
  intro G vw1 hg hf
  simp only [puts, Act.put, rA, rB, rC, rD, rE, ↓reduceIte, Nat.reduceEqDiff]
  clear lx0 lx1
  have HG := Lib.hid (hg)
  clear hg
  have bx3 := Bx.of_fresh hf (i := 4) (by decide) rfl
  have yx3 := (hf.1 4 (by decide)).1
  clear hf
  generalize G 4 = gx3 at *
  have qx0_3 : w.heap.size < gx3 := Nat.lt_of_lt_of_le BX0.out.lt yx3
  have qx1_3 : w.heap.size + 1 < gx3 := Nat.lt_of_lt_of_le BX1.out.lt yx3
  have qx2_3 : w.heap.size + 1 + 1 < gx3 := Nat.lt_of_lt_of_le BX2.out.lt yx3
  replace yx3 : w.heap.size ≤ gx3 := Nat.le_trans HB.out.size yx3
  replace BX0 := bG BX0 HG
  replace BX1 := bG BX1 HG
  replace BX2 := bG BX2 HG
  have lx3 := bx3.cells; have fx3 := bx3.free
  have r0 := Gr.refl vw1
  have BX3 := Lib.hid bx3; clear bx3
  go_wp2
  refine hK.out _ _ ?_; clear hK K
  show Code.wp _ _ _ _ _
  clear lx3 fx3
  clear r0
  refine forgetW (fun w2 => Bx w2 (w.heap.size) 34 #[.int .u64 (lo (Int.natAbs (n))), .string (bg (Int.natAbs (n))), .bool (decide ((n) < 0))] ∧ Bx w2 (w.heap.size + 1) 30 #[.int .u64 (lo (d)), .string (bg (d))] ∧ Bx w2 (w.heap.size + 1 + 1) 36 #[.int .u64 0, .string ⟨#[]⟩, .bool false, .int .u64 0, .string ⟨#[]⟩] ∧ Bx w2 gx3 30 #[.int .u64 (lo (u1)), .string (bg (u1))] ∧ Below w.heap.size w w2) ⟨so2 (BX0.out) (by show w.heap.size ≠ gx3; omega), so2 (BX1.out) (by show w.heap.size + 1 ≠ gx3; omega), so2 (BX2.out) (by show w.heap.size + 1 + 1 ≠ gx3; omega), (((BX3.out).set 0 _).set 1 _).eq (by simp only [rA, rB, rC]), sc2 (HB.out.trans (HG.out.mono HB.out.size)) (by show w.heap.size ≤ gx3; omega)⟩ ?_
  clear HB HG BX0 BX1 BX2 BX3
  rintro Wx1 ⟨bx0, bx1, bx2, bx3, HB⟩
  replace HB := Lib.hid HB
  -- region 2
  obtain ⟨u2, HZ2⟩ : ∃ z, Hid ((Int.natAbs (n)) / (u1) = z) := ⟨_, Lib.hid rfl⟩
  have su2 : wl u2 ≤ 274877906944 := by rw [← HZ2.out]; have := wl_div (Int.natAbs (n)) (u1); omega
  obtain ⟨u3, HZ3⟩ : ∃ z, Hid ((Int.natAbs (n)) % (u1) = z) := ⟨_, Lib.hid rfl⟩
  have su3 : wl u3 ≤ 274877906944 := by rw [← HZ3.out]; have := wl_mod (Int.natAbs (n)) (u1); omega
  have lx0 := bx0.cells
  have lx3 := bx3.cells
  have BX0 := Lib.hid bx0
  have BX1 := Lib.hid bx1
  have BX2 := Lib.hid bx2
  have BX3 := Lib.hid bx3
  clear bx0 bx1 bx2 bx3
  refine wp_seq_k fun K hK => ?_
  replace hK := Lib.hid hK
  refine wp_region_plan 10 [8, 9] [6, 7] (fun i => if i = 8 then 6 else 7) (fun i => if i = 8 then .cells #[.int .u64 0, .string ⟨#[]⟩] 30 else .cells #[.int .u64 0, .string ⟨#[]⟩] 30) [(true, 0), (true, 2), (true, 1), (true, 3), (true, 4), (true, 5), (true, 6), (true, 7)] (by kernel_rfl) (by kernel_rfl) (by intro i hi; simp only [List.mem_cons, List.not_mem_nil, or_false] at hi; rcases hi with rfl | rfl <;> exact ⟨_, rfl, rfl, rfl, by simp, fun ρ w => by kernel_rfl⟩) (by intro i hi; simp only [List.mem_cons, List.not_mem_nil, or_false] at hi; rcases hi with rfl | rfl <;> exact ⟨_, rfl, pure_extract⟩) (fun _ _ _ _ _ h => h) (fun T hT => ?_)
  iterate 2
    refine wpPlan_takeL (v := ?_) rfl (by rfl) (fun w' hw => ?_) ?_
    rotate_left
    · go_simp
      with_reducible rfl
    simp only [Act.put, rA, rB, rC]
  refine wpPlan_callL rfl (by rfl) Tryz.call74 (fun w' hw => abs_any (n) _) (by rfl) ?_
  simp only [Act.put, rA, rB, rC]
  refine wpPlan_callL rfl (by rfl) Tryz.call75 (fun w' hw => zdiv (Int.natAbs (n)) (u1) (u2) (u3) _ HZ2.out HZ3.out (by rw [← HZ1.out]; exact Nat.gcd_pos_of_pos_right _ hd) (by first | omega | exact Nat.le_trans (wl_small (by decide)) (by decide)) (by first | omega | exact Nat.le_trans (wl_small (by decide)) (by decide))) (by rfl) ?_
  simp only [Act.put, rA, rB, rC]
  iterate 4
    refine wpPlan_takeL (v := ?_) rfl (by rfl) (fun w' hw => ?_) ?_
    rotate_left
    · go_simp
      with_reducible rfl
    simp only [Act.put, rA, rB, rC]
  refine wpPlan_nil (hT.out _ _ ?_); clear hT T
  intro G vw2 hg hf
  simp only [puts, Act.put, rA, rB, rC, rD, rE, ↓reduceIte, Nat.reduceEqDiff]
  clear lx0 lx3
  have HG := Lib.hid (hg)
  clear hg
  have bx4 := Bx.of_fresh hf (i := 8) (by decide) rfl
  have yx4 := (hf.1 8 (by decide)).1
  have bx5 := Bx.of_fresh hf (i := 9) (by decide) rfl
  have yx5 := (hf.1 9 (by decide)).1
  have dx4_5 : G 8 ≠ G 9 := fun e => absurd (hf.2 8 (by decide) 9 (by decide) e) (by decide)
  clear hf
  generalize G 8 = gx4 at *
  generalize G 9 = gx5 at *
  have qx0_4 : w.heap.size < gx4 := Nat.lt_of_lt_of_le BX0.out.lt yx4
  have qx0_5 : w.heap.size < gx5 := Nat.lt_of_lt_of_le BX0.out.lt yx5
  have qx1_4 : w.heap.size + 1 < gx4 := Nat.lt_of_lt_of_le BX1.out.lt yx4
  have qx1_5 : w.heap.size + 1 < gx5 := Nat.lt_of_lt_of_le BX1.out.lt yx5
  have qx2_4 : w.heap.size + 1 + 1 < gx4 := Nat.lt_of_lt_of_le BX2.out.lt yx4
  have qx2_5 : w.heap.size + 1 + 1 < gx5 := Nat.lt_of_lt_of_le BX2.out.lt yx5
  have qx3_4 : gx3 < gx4 := Nat.lt_of_lt_of_le BX3.out.lt yx4
  have qx3_5 : gx3 < gx5 := Nat.lt_of_lt_of_le BX3.out.lt yx5
  replace yx4 : w.heap.size ≤ gx4 := Nat.le_trans HB.out.size yx4
  replace yx5 : w.heap.size ≤ gx5 := Nat.le_trans HB.out.size yx5
  replace BX0 := bG BX0 HG
  replace BX1 := bG BX1 HG
  replace BX2 := bG BX2 HG
  replace BX3 := bG BX3 HG
  have lx4 := bx4.cells; have fx4 := bx4.free
  have lx5 := bx5.cells; have fx5 := bx5.free
  have r0 := Gr.refl vw2
  have BX4 := Lib.hid bx4; clear bx4
  have BX5 := Lib.hid bx5; clear bx5
  go_wp2
  refine hK.out _ _ ?_; clear hK K
  show Code.wp _ _ _ _ _
  clear lx4 fx4
  clear lx5 fx5
  clear r0
  refine forgetW (fun w2 => Bx w2 (w.heap.size) 34 #[.int .u64 (lo (Int.natAbs (n))), .string (bg (Int.natAbs (n))), .bool (decide ((n) < 0))] ∧ Bx w2 (w.heap.size + 1) 30 #[.int .u64 (lo (d)), .string (bg (d))] ∧ Bx w2 (w.heap.size + 1 + 1) 36 #[.int .u64 0, .string ⟨#[]⟩, .bool false, .int .u64 0, .string ⟨#[]⟩] ∧ Bx w2 gx3 30 #[.int .u64 (lo (u1)), .string (bg (u1))] ∧ Bx w2 gx4 30 #[.int .u64 (lo (u2)), .string (bg (u2))] ∧ Below w.heap.size w w2) ⟨so2 (so2 (BX0.out) (by show w.heap.size ≠ gx4; omega)) (by show w.heap.size ≠ gx5; omega), so2 (so2 (BX1.out) (by show w.heap.size + 1 ≠ gx4; omega)) (by show w.heap.size + 1 ≠ gx5; omega), so2 (so2 (BX2.out) (by show w.heap.size + 1 + 1 ≠ gx4; omega)) (by show w.heap.size + 1 + 1 ≠ gx5; omega), so2 (so2 (BX3.out) (by show gx3 ≠ gx4; omega)) (by show gx3 ≠ gx5; omega), (so2 (((BX4.out).set 0 _).set 1 _) (by show gx4 ≠ gx5; omega)).eq (by simp only [rA, rB, rC]), sc2 (sc2 (HB.out.trans (HG.out.mono HB.out.size)) (by show w.heap.size ≤ gx4; omega)) (by show w.heap.size ≤ gx5; omega)⟩ ?_
  clear HB HG BX0 BX1 BX2 BX3 BX4 BX5
  rintro Wx2 ⟨bx0, bx1, bx2, bx3, bx4, HB⟩
  replace HB := Lib.hid HB
  -- region 3
  have HZ4 : Hid ((d) / (u1) = q.den) := Lib.hid (by rw [← HZ1.out, ← hq.out]; exact low_den n d hd)
  obtain ⟨u5, HZ5⟩ : ∃ z, Hid ((d) % (u1) = z) := ⟨_, Lib.hid rfl⟩
  have su5 : wl u5 ≤ 274877906944 := by rw [← HZ5.out]; have := wl_mod (d) (u1); omega
  have lx1 := bx1.cells
  have lx3 := bx3.cells
  have BX0 := Lib.hid bx0
  have BX1 := Lib.hid bx1
  have BX2 := Lib.hid bx2
  have BX3 := Lib.hid bx3
  have BX4 := Lib.hid bx4
  clear bx0 bx1 bx2 bx3 bx4
  refine wp_seq_k fun K hK => ?_
  replace hK := Lib.hid hK
  refine wp_region_seqplan 7 [(true, 0), (true, 1), (true, 2), (true, 3), (true, 4), (true, 5), (true, 6)] (by rfl) (by simp) (fun T hT => ?_)
  iterate 2
    refine wpPlan_takeL (v := ?_) rfl (by rfl) (fun w' hw => ?_) ?_
    rotate_left
    · go_simp
      with_reducible rfl
    simp only [Act.put, rA, rB, rC]
  refine wpPlan_callL rfl (by rfl) Tryz.call75 (fun w' hw => zdiv (d) (u1) (q.den) (u5) _ HZ4.out HZ5.out (by rw [← HZ1.out]; exact Nat.gcd_pos_of_pos_right _ hd) (by first | omega | exact Nat.le_trans (wl_small (by decide)) (by decide)) (by first | omega | exact Nat.le_trans (wl_small (by decide)) (by decide))) (by rfl) ?_
  simp only [Act.put, rA, rB, rC]
  iterate 4
    refine wpPlan_takeL (v := ?_) rfl (by rfl) (fun w' hw => ?_) ?_
    rotate_left
    · go_simp
      with_reducible rfl
    simp only [Act.put, rA, rB, rC]
  refine wpPlan_nil (hT.out _ _ ?_); clear hT T
  intro vw3 hg
  simp only [puts, Act.put, rA, rB, rC, rD, rE, ↓reduceIte, Nat.reduceEqDiff]
  clear lx1 lx3
  have HG := Lib.hid (hg)
  clear hg
  replace BX0 := bG BX0 HG
  replace BX1 := bG BX1 HG
  replace BX2 := bG BX2 HG
  replace BX3 := bG BX3 HG
  replace BX4 := bG BX4 HG
  have r0 := Gr.refl vw3
  go_wp2
  refine hK.out _ _ ?_; clear hK K
  show Code.wp _ _ _ _ _
  clear r0
  have hsz : w.heap.size ≤ vw3.heap.size := Nat.le_trans HB.out.size HG.out.size
  have mx0 : w.heap.size < vw3.heap.size := BX0.out.lt
  have mx1 : w.heap.size + 1 < vw3.heap.size := BX1.out.lt
  have mx2 : w.heap.size + 1 + 1 < vw3.heap.size := BX2.out.lt
  have mx3 : gx3 < vw3.heap.size := BX3.out.lt
  have mx4 : gx4 < vw3.heap.size := BX4.out.lt
  refine forgetW (fun w2 => Bx w2 (w.heap.size) 34 #[.int .u64 (lo (Int.natAbs (n))), .string (bg (Int.natAbs (n))), .bool (decide ((n) < 0))] ∧ Bx w2 (w.heap.size + 1 + 1) 36 #[.int .u64 0, .string ⟨#[]⟩, .bool false, .int .u64 0, .string ⟨#[]⟩] ∧ Bx w2 gx4 30 #[.int .u64 (lo (u2)), .string (bg (u2))] ∧ Bx w2 (vw3.heap.size) 30 #[.int .u64 (lo q.den), .string (bg q.den)] ∧ Below w.heap.size w w2) ⟨((BX0.out).alloc _).alloc _, ((BX2.out).alloc _).alloc _, ((BX4.out).alloc _).alloc _, ((Bx.at (by simp) : Bx _ (vw3.heap.size) _ _)).alloc _, ((HB.out.trans (HG.out.mono HB.out.size)).alloc (by first | omega | (simp; omega)) _).alloc (by first | omega | (simp; omega)) _⟩ ?_
  clear HB HG BX0 BX1 BX2 BX3 BX4
  rintro Wx3 ⟨bx0, bx2, bx4, bx6, HB⟩
  replace HB := Lib.hid HB
  have yx6 : w.heap.size ≤ vw3.heap.size := by omega
  have qx0_6 : w.heap.size < vw3.heap.size := by omega
  have qx1_6 : w.heap.size + 1 < vw3.heap.size := by omega
  have qx2_6 : w.heap.size + 1 + 1 < vw3.heap.size := by omega
  have qx3_6 : gx3 < vw3.heap.size := by omega
  have qx4_6 : gx4 < vw3.heap.size := by omega
  generalize hx6 : vw3.heap.size = gx6 at *
  clear hx6
  clear hsz mx0 mx1 mx2 mx3 mx4
  -- region 4
  have HZ6 : Hid ((q.den) - (1) = q.den - 1) := Lib.hid (rfl)
  have lx6 := bx6.cells
  have BX0 := Lib.hid bx0
  have BX2 := Lib.hid bx2
  have BX4 := Lib.hid bx4
  have BX6 := Lib.hid bx6
  clear bx0 bx2 bx4 bx6
  refine wp_seq_k fun K hK => ?_
  replace hK := Lib.hid hK
  refine wp_region_plan 6 [] [5] (fun _ => 0) (fun _ => .cells #[] 0) [(true, 0), (true, 1), (true, 2), (true, 3), (true, 4), (true, 5)] (by kernel_rfl) (by kernel_rfl) (fun i hi => by cases hi) (by intro i hi; simp only [List.mem_cons, List.not_mem_nil, or_false] at hi; rcases hi with rfl <;> exact ⟨_, rfl, pure_extract⟩) (fun _ _ _ _ _ h => h) (fun T hT => ?_)
  iterate 1
    refine wpPlan_takeL (v := ?_) rfl (by rfl) (fun w' hw => ?_) ?_
    rotate_left
    · go_simp
      with_reducible rfl
    simp only [Act.put, rA, rB, rC]
  refine wpPlan_callL rfl (by rfl) Tryz.call77 (fun w' hw => zof 1 _ (by decide)) (by rfl) ?_
  simp only [Act.put, rA, rB, rC]
  refine wpPlan_callL rfl (by rfl) Tryz.call76 (fun w' hw => zsub (q.den) (1) (q.den - 1) _ HZ6.out (by first | omega | exact Nat.le_trans (wl_small (by decide)) (by decide)) (by first | omega | exact Nat.le_trans (wl_small (by decide)) (by decide)) (by first | omega | exact Nat.le_trans (wl_small (by decide)) (by decide))) (by rfl) ?_
  simp only [Act.put, rA, rB, rC]
  iterate 3
    refine wpPlan_takeL (v := ?_) rfl (by rfl) (fun w' hw => ?_) ?_
    rotate_left
    · go_simp
      with_reducible rfl
    simp only [Act.put, rA, rB, rC]
  refine wpPlan_nil (hT.out _ _ ?_); clear hT T
  intro G vw4 hg hf
  simp only [puts, Act.put, rA, rB, rC, rD, rE, ↓reduceIte, Nat.reduceEqDiff]
  clear lx6
  have HG := Lib.hid (hg)
  clear hg
  replace BX0 := bG BX0 HG
  replace BX2 := bG BX2 HG
  replace BX4 := bG BX4 HG
  replace BX6 := bG BX6 HG
  have lx6 := BX6.out.cells; have fx6 := BX6.out.free
  have r0 := Gr.refl vw4
  go_wp2
  refine hK.out _ _ ?_; clear hK K
  show Code.wp _ _ _ _ _
  clear lx6 fx6
  clear r0
  refine forgetW (fun w2 => Bx w2 (w.heap.size) 34 #[.int .u64 (lo (Int.natAbs (n))), .string (bg (Int.natAbs (n))), .bool (decide ((n) < 0))] ∧ Bx w2 (w.heap.size + 1 + 1) 36 #[.int .u64 0, .string ⟨#[]⟩, .bool false, .int .u64 0, .string ⟨#[]⟩] ∧ Bx w2 gx4 30 #[.int .u64 (lo (u2)), .string (bg (u2))] ∧ Bx w2 gx6 30 #[.int .u64 (lo (q.den - 1)), .string (bg (q.den - 1))] ∧ Below w.heap.size w w2) ⟨so2 (BX0.out) (by show w.heap.size ≠ gx6; omega), so2 (BX2.out) (by show w.heap.size + 1 + 1 ≠ gx6; omega), so2 (BX4.out) (by show gx4 ≠ gx6; omega), (((BX6.out).set 0 _).set 1 _).eq (by simp only [rA, rB, rC]), sc2 (HB.out.trans (HG.out.mono HB.out.size)) (by show w.heap.size ≤ gx6; omega)⟩ ?_
  clear HB HG BX0 BX2 BX4 BX6
  rintro Wx4 ⟨bx0, bx2, bx4, bx6, HB⟩
  replace HB := Lib.hid HB
  -- region 5
  have HZ7 : Hid ((if decide (sgI (n) < 0) then -((u2 : Nat) : Int) else ((u2 : Nat) : Int)) = q.num) := Lib.hid (by rw [← HZ2.out, ← HZ1.out, ← hq.out, ← low_num n d hd]; simp only [sgI_neg, decide_eq_true_eq])
  have lx0 := bx0.cells
  have lx4 := bx4.cells
  have lx6 := bx6.cells
  have BX0 := Lib.hid bx0
  have BX2 := Lib.hid bx2
  have BX4 := Lib.hid bx4
  have BX6 := Lib.hid bx6
  clear bx0 bx2 bx4 bx6
  refine wp_seq_k fun K hK => ?_
  replace hK := Lib.hid hK
  refine wp_region_plan 7 [] [] (fun _ => 0) (fun _ => .cells #[] 0) [(true, 0), (true, 3), (true, 5), (true, 1), (true, 2), (true, 4), (true, 6)] (by kernel_rfl) (by kernel_rfl) (fun i hi => by cases hi) (fun i hi => by cases hi) (fun _ _ _ _ _ h => h) (fun T hT => ?_)
  iterate 3
    refine wpPlan_takeL (v := ?_) rfl (by rfl) (fun w' hw => ?_) ?_
    rotate_left
    · go_simp
      with_reducible rfl
    simp only [Act.put, rA, rB, rC]
  refine wpPlan_callL rfl (by rfl) Tryz.call35 (fun w' hw => sign_int (n) _) (by rfl) ?_
  simp only [Act.put, rA, rB, rC]
  iterate 1
    refine wpPlan_takeL (v := ?_) rfl (by rfl) (fun w' hw => ?_) ?_
    rotate_left
    · go_simp
      with_reducible rfl
    simp only [Act.put, rA, rB, rC]
  refine wpPlan_callL rfl (by rfl) Tryz.call78 (fun w' hw => from_any (decide (sgI (n) < 0)) (u2) (q.num) _ HZ7.out) (by rfl) ?_
  simp only [Act.put, rA, rB, rC]
  iterate 1
    refine wpPlan_takeL (v := ?_) rfl (by rfl) (fun w' hw => ?_) ?_
    rotate_left
    · go_simp
      with_reducible rfl
    simp only [Act.put, rA, rB, rC]
  refine wpPlan_nil (hT.out _ _ ?_); clear hT T
  intro G vw5 hg hf
  simp only [puts, Act.put, rA, rB, rC, rD, rE, ↓reduceIte, Nat.reduceEqDiff]
  clear lx0 lx4 lx6
  have HG := Lib.hid (hg)
  clear hg
  replace BX0 := bG BX0 HG
  replace BX2 := bG BX2 HG
  replace BX4 := bG BX4 HG
  replace BX6 := bG BX6 HG
  have lx2 := BX2.out.cells; have fx2 := BX2.out.free
  have r0 := Gr.refl vw5
  go_wp2
  refine hK.out _ _ ?_; clear hK K
  show Code.wp _ _ _ _ _
  clear lx2 fx2
  clear r0
  refine forgetW (fun w2 => Bx w2 (w.heap.size + 1 + 1) 36 #[.int .u64 (lo q.num.natAbs), .string (bg q.num.natAbs), .bool (decide (q.num < 0)), .int .u64 (lo (q.den - 1)), .string (bg (q.den - 1))] ∧ Below w.heap.size w w2) ⟨((((((BX2.out).set 0 _).set 1 _).set 2 _).set 3 _).set 4 _).eq (by simp only [rA, rB, rC]), sc5 (HB.out.trans (HG.out.mono HB.out.size)) (by show w.heap.size ≤ w.heap.size + 1 + 1; omega)⟩ ?_
  clear HB HG BX0 BX2 BX4 BX6
  rintro Wx5 ⟨bx2, HB⟩
  replace HB := Lib.hid HB
  refine wp_ret ?_
  try simp only [Exit.then, Exit.inBlock]
  have lx2 := bx2.cells
  have r0 := Gr.refl Wx5
  exact bodyPost_ret (v := .agg #[.int .u64 (lo q.num.natAbs), .string (bg q.num.natAbs), .bool (decide (q.num < 0)), .int .u64 (lo (q.den - 1)), .string (bg (q.den - 1))]) (by simp [results, Tryz.results48, go_sem, lx2 _ r0]) rfl ⟨rfl, HB.out⟩

end Go.Proofs.YtenpbnmmadbkdaaGreat


/- fracs: den, signed, whole, Whole, Sign, Neg. -/
namespace Go.Proofs.YtenpbnmmadbkdaaGreat
open Go.RowKit
set_option linter.unusedSimpArgs false
set_option linter.unusedVariables false
attribute [local go_sem ↓] Go.wp_at_zero Go.wp_at_succ
attribute [local go_sem ↓] eq_nat eq_nat_zero
set_option maxHeartbeats 1000000 in
theorem fden_any (q : Rat) (hs_q : sz q ≤ 274877906944) (w : World) :
    Calls Tryz.prog 50 #[(Value.agg #[.int .u64 (lo q.num.natAbs), .string (bg q.num.natAbs), .bool (decide (q.num < 0)), .int .u64 (lo (q.den - 1)), .string (bg (q.den - 1))])] w fun e w' => e = .returned (.agg #[.int .u64 (lo q.den), .string (bg q.den)]) ∧ Below w.heap.size w w' := by
  have hn_q := Nat.le_trans (sz_num q) hs_q
  have hd_q := Nat.le_trans (sz_den q) hs_q
  have he_q := Nat.le_trans (wl_mono (Nat.sub_le q.den 1)) hd_q
  have hp_q : 0 < q.den := q.den_pos
  go_enter Tryz.func50, Tryz.ntmps50
  -- region 0
  refine wp_seq_k fun K hK => ?_
  replace hK := Lib.hid hK
  refine wp_region_lit ?_
  go_wp2
  refine hK.out _ _ ?_; clear hK K
  show Code.wp _ _ _ _ _
  refine forgetW (fun w2 => Bx w2 (w.heap.size) 36 #[.int .u64 (lo q.num.natAbs), .string (bg q.num.natAbs), .bool (decide (q.num < 0)), .int .u64 (lo (q.den - 1)), .string (bg (q.den - 1))] ∧ Bx w2 (w.heap.size + 1) 30 #[.int .u64 0, .string ⟨#[]⟩] ∧ Below w.heap.size w w2) ⟨(Bx.at rfl).alloc _, Bx.at (by simp), ((Below.refl _ _).alloc (Nat.le_refl _) _).alloc (by simp) _⟩ ?_
  rintro Wx ⟨bx0, bx1, HB⟩
  replace HB := Lib.hid HB
  -- region 1
  have HZ1 : Hid ((q.den - 1) + (1) = q.den) := Lib.hid (Nat.sub_add_cancel hp_q)
  have lx0 := bx0.cells
  have BX0 := Lib.hid bx0
  have BX1 := Lib.hid bx1
  clear bx0 bx1
  refine wp_seq_k fun K hK => ?_
  replace hK := Lib.hid hK
  refine wp_region_plan 4 [] [] (fun _ => 0) (fun _ => .cells #[] 0) [(true, 0), (true, 1), (true, 2), (true, 3)] (by kernel_rfl) (by kernel_rfl) (fun i hi => by cases hi) (fun i hi => by cases hi) (fun _ _ _ _ _ h => h) (fun T hT => ?_)
  iterate 2
    refine wpPlan_takeL (v := ?_) rfl (by rfl) (fun w' hw => ?_) ?_
    rotate_left
    · go_simp
      with_reducible rfl
    simp only [Act.put, rA, rB, rC]
  refine wpPlan_callL rfl (by rfl) Tryz.call77 (fun w' hw => zof 1 _ (by decide)) (by rfl) ?_
  simp only [Act.put, rA, rB, rC]
  refine wpPlan_callL rfl (by rfl) Tryz.call82 (fun w' hw => zadd (q.den - 1) (1) (q.den) _ HZ1.out (by first | omega | exact Nat.le_trans (wl_small (by decide)) (by decide)) (by first | omega | exact Nat.le_trans (wl_small (by decide)) (by decide))) (by rfl) ?_
  simp only [Act.put, rA, rB, rC]
  refine wpPlan_nil (hT.out _ _ ?_); clear hT T
  intro G vw1 hg hf
  simp only [puts, Act.put, rA, rB, rC, rD, rE, ↓reduceIte, Nat.reduceEqDiff]
  clear lx0
  have HG := Lib.hid (hg)
  clear hg
  replace BX0 := bG BX0 HG
  replace BX1 := bG BX1 HG
  have lx1 := BX1.out.cells; have fx1 := BX1.out.free
  have r0 := Gr.refl vw1
  go_wp2
  refine hK.out _ _ ?_; clear hK K
  show Code.wp _ _ _ _ _
  clear lx1 fx1
  clear r0
  refine forgetW (fun w2 => Bx w2 (w.heap.size + 1) 30 #[.int .u64 (lo q.den), .string (bg q.den)] ∧ Below w.heap.size w w2) ⟨(((BX1.out).set 0 _).set 1 _).eq (by simp only [rA, rB, rC]), sc2 (HB.out.trans (HG.out.mono HB.out.size)) (by show w.heap.size ≤ w.heap.size + 1; omega)⟩ ?_
  clear HB HG BX0 BX1
  rintro Wx1 ⟨bx1, HB⟩
  replace HB := Lib.hid HB
  refine wp_ret ?_
  try simp only [Exit.then, Exit.inBlock]
  have lx1 := bx1.cells
  have r0 := Gr.refl Wx1
  exact bodyPost_ret (v := .agg #[.int .u64 (lo q.den), .string (bg q.den)]) (by simp [results, Tryz.results50, go_sem, lx1 _ r0]) rfl ⟨rfl, HB.out⟩

set_option maxHeartbeats 1000000 in
theorem fsigned_any (q : Rat) (z : Int) (w : World) (hz : ((q.den : Nat) : Int) = z) (hs_q : sz q ≤ 274877906944) :
    Calls Tryz.prog 68 #[(Value.agg #[.int .u64 (lo q.num.natAbs), .string (bg q.num.natAbs), .bool (decide (q.num < 0)), .int .u64 (lo (q.den - 1)), .string (bg (q.den - 1))])] w fun e w' => e = .returned (.agg #[.int .u64 (lo (Int.natAbs (z))), .string (bg (Int.natAbs (z))), .bool (decide ((z) < 0))]) ∧ Below w.heap.size w w' := by
  have hn_q := Nat.le_trans (sz_num q) hs_q
  have hd_q := Nat.le_trans (sz_den q) hs_q
  have he_q := Nat.le_trans (wl_mono (Nat.sub_le q.den 1)) hd_q
  have hp_q : 0 < q.den := q.den_pos
  replace hz := Lib.hid hz
  go_enter Tryz.func68, Tryz.ntmps68
  -- region 0
  refine wp_seq_k fun K hK => ?_
  replace hK := Lib.hid hK
  refine wp_region_lit ?_
  go_wp2
  refine hK.out _ _ ?_; clear hK K
  show Code.wp _ _ _ _ _
  refine forgetW (fun w2 => Bx w2 (w.heap.size) 36 #[.int .u64 (lo q.num.natAbs), .string (bg q.num.natAbs), .bool (decide (q.num < 0)), .int .u64 (lo (q.den - 1)), .string (bg (q.den - 1))] ∧ Bx w2 (w.heap.size + 1) 34 #[.int .u64 0, .string ⟨#[]⟩, .bool false] ∧ Below w.heap.size w w2) ⟨(Bx.at rfl).alloc _, Bx.at (by simp), ((Below.refl _ _).alloc (Nat.le_refl _) _).alloc (by simp) _⟩ ?_
  rintro Wx ⟨bx0, bx1, HB⟩
  replace HB := Lib.hid HB
  -- region 1
  have HZ1 : Hid ((if false then -((q.den : Nat) : Int) else ((q.den : Nat) : Int)) = z) := Lib.hid (hz.out)
  have lx0 := bx0.cells
  have BX0 := Lib.hid bx0
  have BX1 := Lib.hid bx1
  clear bx0 bx1
  refine wp_seq_k fun K hK => ?_
  replace hK := Lib.hid hK
  refine wp_region_seqplan 3 [(true, 0), (true, 1), (true, 2)] (by rfl) (by simp) (fun T hT => ?_)
  iterate 1
    refine wpPlan_takeL (v := ?_) rfl (by rfl) (fun w' hw => ?_) ?_
    rotate_left
    · go_simp
      with_reducible rfl
    simp only [Act.put, rA, rB, rC]
  refine wpPlan_callL rfl (by rfl) Tryz.call50 (fun w' hw => fden_any (q) (by first | omega | exact Nat.le_trans (wl_small (by decide)) (by decide)) _) (by rfl) ?_
  simp only [Act.put, rA, rB, rC]
  refine wpPlan_callL rfl (by rfl) Tryz.call78 (fun w' hw => from_any false (q.den) (z) _ HZ1.out) (by rfl) ?_
  simp only [Act.put, rA, rB, rC]
  refine wpPlan_nil (hT.out _ _ ?_); clear hT T
  intro vw1 hg
  simp only [puts, Act.put, rA, rB, rC, rD, rE, ↓reduceIte, Nat.reduceEqDiff]
  clear lx0
  have HG := Lib.hid (hg)
  clear hg
  replace BX0 := bG BX0 HG
  replace BX1 := bG BX1 HG
  have lx1 := BX1.out.cells; have fx1 := BX1.out.free
  have r0 := Gr.refl vw1
  go_wp2
  refine hK.out _ _ ?_; clear hK K
  show Code.wp _ _ _ _ _
  clear lx1 fx1
  clear r0
  refine forgetW (fun w2 => Bx w2 (w.heap.size + 1) 34 #[.int .u64 (lo (Int.natAbs (z))), .string (bg (Int.natAbs (z))), .bool (decide ((z) < 0))] ∧ Below w.heap.size w w2) ⟨((((BX1.out).set 0 _).set 1 _).set 2 _).eq (by simp only [rA, rB, rC]), sc3 (HB.out.trans (HG.out.mono HB.out.size)) (by show w.heap.size ≤ w.heap.size + 1; omega)⟩ ?_
  clear HB HG BX0 BX1
  rintro Wx1 ⟨bx1, HB⟩
  replace HB := Lib.hid HB
  refine wp_ret ?_
  try simp only [Exit.then, Exit.inBlock]
  have lx1 := bx1.cells
  have r0 := Gr.refl Wx1
  exact bodyPost_ret (v := .agg #[.int .u64 (lo (Int.natAbs (z))), .string (bg (Int.natAbs (z))), .bool (decide ((z) < 0))]) (by simp [results, Tryz.results68, go_sem, lx1 _ r0]) rfl ⟨rfl, HB.out⟩

set_option maxHeartbeats 1000000 in
theorem fwhole_raw (n : Int) (w : World) :
    Calls Tryz.prog 46 #[(Value.agg #[.int .u64 (lo (Int.natAbs (n))), .string (bg (Int.natAbs (n))), .bool (decide ((n) < 0))])] w fun e w' => e = .returned (.agg #[.int .u64 (lo (Int.natAbs (n))), .string (bg (Int.natAbs (n))), .bool (decide ((n) < 0)), .int .u64 0, .string ⟨#[]⟩]) ∧ Below w.heap.size w w' := by
  go_enter Tryz.func46, Tryz.ntmps46
  -- region 0
  refine wp_seq_k fun K hK => ?_
  replace hK := Lib.hid hK
  refine wp_region_lit ?_
  go_wp2
  refine hK.out _ _ ?_; clear hK K
  show Code.wp _ _ _ _ _
  refine forgetW (fun w2 => Bx w2 (w.heap.size) 34 #[.int .u64 (lo (Int.natAbs (n))), .string (bg (Int.natAbs (n))), .bool (decide ((n) < 0))] ∧ Bx w2 (w.heap.size + 1) 36 #[.int .u64 0, .string ⟨#[]⟩, .bool false, .int .u64 0, .string ⟨#[]⟩] ∧ Below w.heap.size w w2) ⟨(Bx.at rfl).alloc _, Bx.at (by simp), ((Below.refl _ _).alloc (Nat.le_refl _) _).alloc (by simp) _⟩ ?_
  rintro Wx ⟨bx0, bx1, HB⟩
  replace HB := Lib.hid HB
  -- region 1
  have lx0 := bx0.cells
  have BX0 := Lib.hid bx0
  have BX1 := Lib.hid bx1
  clear bx0 bx1
  refine wp_seq_k fun K hK => ?_
  replace hK := Lib.hid hK
  refine wp_region_seqplan 2 [(true, 0), (true, 1)] (by rfl) (by simp) (fun T hT => ?_)
  iterate 2
    refine wpPlan_takeL (v := ?_) rfl (by rfl) (fun w' hw => ?_) ?_
    rotate_left
    · go_simp
      with_reducible rfl
    simp only [Act.put, rA, rB, rC]
  refine wpPlan_nil (hT.out _ _ ?_); clear hT T
  intro vw1 hg
  simp only [puts, Act.put, rA, rB, rC, rD, rE, ↓reduceIte, Nat.reduceEqDiff]
  clear lx0
  have HG := Lib.hid (hg)
  clear hg
  replace BX0 := bG BX0 HG
  replace BX1 := bG BX1 HG
  have lx1 := BX1.out.cells; have fx1 := BX1.out.free
  have r0 := Gr.refl vw1
  go_wp2
  refine hK.out _ _ ?_; clear hK K
  show Code.wp _ _ _ _ _
  clear lx1 fx1
  clear r0
  refine forgetW (fun w2 => Bx w2 (w.heap.size + 1) 36 #[.int .u64 (lo (Int.natAbs (n))), .string (bg (Int.natAbs (n))), .bool (decide ((n) < 0)), .int .u64 0, .string ⟨#[]⟩] ∧ Below w.heap.size w w2) ⟨((((((BX1.out).set 0 _).set 1 _).set 2 _).set 3 _).set 4 _).eq (by simp only [rA, rB, rC]), sc5 (HB.out.trans (HG.out.mono HB.out.size)) (by show w.heap.size ≤ w.heap.size + 1; omega)⟩ ?_
  clear HB HG BX0 BX1
  rintro Wx1 ⟨bx1, HB⟩
  replace HB := Lib.hid HB
  refine wp_ret ?_
  try simp only [Exit.then, Exit.inBlock]
  have lx1 := bx1.cells
  have r0 := Gr.refl Wx1
  exact bodyPost_ret (v := .agg #[.int .u64 (lo (Int.natAbs (n))), .string (bg (Int.natAbs (n))), .bool (decide ((n) < 0)), .int .u64 0, .string ⟨#[]⟩]) (by simp [results, Tryz.results46, go_sem, lx1 _ r0]) rfl ⟨rfl, HB.out⟩

theorem fwhole_any (n : Int) (q : Rat) (w : World) (hq : (n : Rat) = q) :
    Calls Tryz.prog 46 #[(Value.agg #[.int .u64 (lo (Int.natAbs (n))), .string (bg (Int.natAbs (n))), .bool (decide ((n) < 0))])] w fun e w' => e = .returned (Value.agg #[.int .u64 (lo q.num.natAbs), .string (bg q.num.natAbs), .bool (decide (q.num < 0)), .int .u64 (lo (q.den - 1)), .string (bg (q.den - 1))]) ∧ Below w.heap.size w w' := by
  subst hq
  exact fwhole_raw n w

set_option maxHeartbeats 1000000 in
theorem fiswhole_raw (q : Rat) (w : World) :
    Calls Tryz.prog 45 #[(Value.agg #[.int .u64 (lo q.num.natAbs), .string (bg q.num.natAbs), .bool (decide (q.num < 0)), .int .u64 (lo (q.den - 1)), .string (bg (q.den - 1))])] w fun e w' => e = .returned (.bool (decide (q.den - 1 = 0))) ∧ Below w.heap.size w w' := by
  go_enter Tryz.func45, Tryz.ntmps45
  -- region 0
  refine wp_seq_k fun K hK => ?_
  replace hK := Lib.hid hK
  refine wp_region_lit ?_
  go_wp2
  refine hK.out _ _ ?_; clear hK K
  show Code.wp _ _ _ _ _
  refine forgetW (fun w2 => Bx w2 (w.heap.size) 36 #[.int .u64 (lo q.num.natAbs), .string (bg q.num.natAbs), .bool (decide (q.num < 0)), .int .u64 (lo (q.den - 1)), .string (bg (q.den - 1))] ∧ Below w.heap.size w w2) ⟨Bx.at rfl, (Below.refl _ _).alloc (Nat.le_refl _) _⟩ ?_
  rintro Wx ⟨bx0, HB⟩
  replace HB := Lib.hid HB
  -- region 1
  have lx0 := bx0.cells
  have BX0 := Lib.hid bx0
  clear bx0
  refine wp_seq_k fun K hK => ?_
  replace hK := Lib.hid hK
  refine wp_region_seqplan 5 [(true, 0), (true, 1), (true, 2), (true, 3), (true, 4)] (by rfl) (by simp) (fun T hT => ?_)
  iterate 5
    refine wpPlan_takeL (v := ?_) rfl (by rfl) (fun w' hw => ?_) ?_
    rotate_left
    · go_simp
      with_reducible rfl
    simp only [Act.put, rA, rB, rC]
  refine wpPlan_nil (hT.out _ _ ?_); clear hT T
  intro vw1 hg
  simp only [puts, Act.put, rA, rB, rC, rD, rE, ↓reduceIte, Nat.reduceEqDiff]
  clear lx0
  have HG := Lib.hid (hg)
  clear hg
  replace BX0 := bG BX0 HG
  have r0 := Gr.refl vw1
  go_wp2
  refine hK.out _ _ ?_; clear hK K
  show Code.wp _ _ _ _ _
  clear r0
  refine forgetW (fun w2 => Below w.heap.size w w2) (HB.out.trans (HG.out.mono HB.out.size)) ?_
  clear HB HG BX0
  rintro Wx1 HB
  replace HB := Lib.hid HB
  refine wp_ret ?_
  try simp only [Exit.then, Exit.inBlock]
  have r0 := Gr.refl Wx1
  exact bodyPost_ret (v := .bool (decide (q.den - 1 = 0))) (by simp [results, Tryz.results45, go_sem]) rfl ⟨rfl, HB.out⟩
theorem fiswhole_any (q : Rat) (b : Bool) (w : World) (hb : decide (q.den = 1) = b) :
    Calls Tryz.prog 45 #[(Value.agg #[.int .u64 (lo q.num.natAbs), .string (bg q.num.natAbs), .bool (decide (q.num < 0)), .int .u64 (lo (q.den - 1)), .string (bg (q.den - 1))])] w fun e w' => e = .returned (.bool b) ∧ Below w.heap.size w w' := by
  have e : decide (q.den - 1 = 0) = b := by
    rw [← hb]
    have := q.den_pos
    exact decide_eq_decide.2 (by omega)
  rw [← e]
  exact fiswhole_raw q w

set_option maxHeartbeats 1000000 in
theorem fsign_any (q : Rat) (t : Int) (w : World) (ht : sgQ q = t) :
    Calls Tryz.prog 15 #[(Value.agg #[.int .u64 (lo q.num.natAbs), .string (bg q.num.natAbs), .bool (decide (q.num < 0)), .int .u64 (lo (q.den - 1)), .string (bg (q.den - 1))])] w fun e w' => e = .returned (.int .i64 (t)) ∧ Below w.heap.size w w' := by
  replace ht : Hid (sgI q.num = t) := by rw [← ht, sgQ_num]; rfl
  go_enter Tryz.func15, Tryz.ntmps15
  -- region 0
  refine wp_seq_k fun K hK => ?_
  replace hK := Lib.hid hK
  refine wp_region_lit ?_
  go_wp2
  refine hK.out _ _ ?_; clear hK K
  show Code.wp _ _ _ _ _
  refine forgetW (fun w2 => Bx w2 (w.heap.size) 36 #[.int .u64 (lo q.num.natAbs), .string (bg q.num.natAbs), .bool (decide (q.num < 0)), .int .u64 (lo (q.den - 1)), .string (bg (q.den - 1))] ∧ Below w.heap.size w w2) ⟨Bx.at rfl, (Below.refl _ _).alloc (Nat.le_refl _) _⟩ ?_
  rintro Wx ⟨bx0, HB⟩
  replace HB := Lib.hid HB
  -- region 1
  have lx0 := bx0.cells
  have BX0 := Lib.hid bx0
  clear bx0
  refine wp_seq_k fun K hK => ?_
  replace hK := Lib.hid hK
  refine wp_region_seqplan 4 [(true, 0), (true, 1), (true, 2), (true, 3)] (by rfl) (by simp) (fun T hT => ?_)
  iterate 2
    refine wpPlan_takeL (v := ?_) rfl (by rfl) (fun w' hw => ?_) ?_
    rotate_left
    · go_simp
      with_reducible rfl
    simp only [Act.put, rA, rB, rC]
  refine wpPlan_callL rfl (by rfl) Tryz.call35 (fun w' hw => zisign (q.num) (t) _ (ht.out)) (by rfl) ?_
  simp only [Act.put, rA, rB, rC]
  iterate 1
    refine wpPlan_takeL (v := ?_) rfl (by rfl) (fun w' hw => ?_) ?_
    rotate_left
    · go_simp
      with_reducible rfl
    simp only [Act.put, rA, rB, rC]
  refine wpPlan_nil (hT.out _ _ ?_); clear hT T
  intro vw1 hg
  simp only [puts, Act.put, rA, rB, rC, rD, rE, ↓reduceIte, Nat.reduceEqDiff]
  clear lx0
  have HG := Lib.hid (hg)
  clear hg
  replace BX0 := bG BX0 HG
  have r0 := Gr.refl vw1
  go_wp2
  refine hK.out _ _ ?_; clear hK K
  show Code.wp _ _ _ _ _
  clear r0
  refine forgetW (fun w2 => Below w.heap.size w w2) (HB.out.trans (HG.out.mono HB.out.size)) ?_
  clear HB HG BX0
  rintro Wx1 HB
  replace HB := Lib.hid HB
  refine wp_ret ?_
  try simp only [Exit.then, Exit.inBlock]
  have r0 := Gr.refl Wx1
  exact bodyPost_ret (v := .int .i64 (t)) (by simp [results, Tryz.results15, go_sem]) rfl ⟨rfl, HB.out⟩

set_option maxHeartbeats 1000000 in
theorem fneg_raw (q r : Rat) (hr : Hid (-q = r)) (w : World) :
    Calls Tryz.prog 61 #[(Value.agg #[.int .u64 (lo q.num.natAbs), .string (bg q.num.natAbs), .bool (decide (q.num < 0)), .int .u64 (lo (q.den - 1)), .string (bg (q.den - 1))])] w fun e w' => e = .returned (.agg #[.int .u64 (lo r.num.natAbs), .string (bg r.num.natAbs), .bool (decide (r.num < 0)), .int .u64 (lo (q.den - 1)), .string (bg (q.den - 1))]) ∧ Below w.heap.size w w' := by
  go_enter Tryz.func61, Tryz.ntmps61
  -- region 0
  refine wp_seq_k fun K hK => ?_
  replace hK := Lib.hid hK
  refine wp_region_lit ?_
  go_wp2
  refine hK.out _ _ ?_; clear hK K
  show Code.wp _ _ _ _ _
  refine forgetW (fun w2 => Bx w2 (w.heap.size) 36 #[.int .u64 (lo q.num.natAbs), .string (bg q.num.natAbs), .bool (decide (q.num < 0)), .int .u64 (lo (q.den - 1)), .string (bg (q.den - 1))] ∧ Bx w2 (w.heap.size + 1) 36 #[.int .u64 0, .string ⟨#[]⟩, .bool false, .int .u64 0, .string ⟨#[]⟩] ∧ Below w.heap.size w w2) ⟨(Bx.at rfl).alloc _, Bx.at (by simp), ((Below.refl _ _).alloc (Nat.le_refl _) _).alloc (by simp) _⟩ ?_
  rintro Wx ⟨bx0, bx1, HB⟩
  replace HB := Lib.hid HB
  -- region 1
  have HZ1 : Hid (-(q.num) = r.num) := Lib.hid (by rw [← hr.out]; rfl)
  have lx0 := bx0.cells
  have BX0 := Lib.hid bx0
  have BX1 := Lib.hid bx1
  clear bx0 bx1
  refine wp_seq_k fun K hK => ?_
  replace hK := Lib.hid hK
  refine wp_region_plan 6 [] [] (fun _ => 0) (fun _ => .cells #[] 0) [(true, 0), (true, 1), (true, 3), (true, 4), (true, 2), (true, 5)] (by kernel_rfl) (by kernel_rfl) (fun i hi => by cases hi) (fun i hi => by cases hi) (fun _ _ _ _ _ h => h) (fun T hT => ?_)
  iterate 4
    refine wpPlan_takeL (v := ?_) rfl (by rfl) (fun w' hw => ?_) ?_
    rotate_left
    · go_simp
      with_reducible rfl
    simp only [Act.put, rA, rB, rC]
  refine wpPlan_callL rfl (by rfl) Tryz.call88 (fun w' hw => zineg (q.num) (r.num) _ HZ1.out) (by rfl) ?_
  simp only [Act.put, rA, rB, rC]
  iterate 1
    refine wpPlan_takeL (v := ?_) rfl (by rfl) (fun w' hw => ?_) ?_
    rotate_left
    · go_simp
      with_reducible rfl
    simp only [Act.put, rA, rB, rC]
  refine wpPlan_nil (hT.out _ _ ?_); clear hT T
  intro G vw1 hg hf
  simp only [puts, Act.put, rA, rB, rC, rD, rE, ↓reduceIte, Nat.reduceEqDiff]
  clear lx0
  have HG := Lib.hid (hg)
  clear hg
  replace BX0 := bG BX0 HG
  replace BX1 := bG BX1 HG
  have lx1 := BX1.out.cells; have fx1 := BX1.out.free
  have r0 := Gr.refl vw1
  go_wp2
  refine hK.out _ _ ?_; clear hK K
  show Code.wp _ _ _ _ _
  clear lx1 fx1
  clear r0
  refine forgetW (fun w2 => Bx w2 (w.heap.size + 1) 36 #[.int .u64 (lo r.num.natAbs), .string (bg r.num.natAbs), .bool (decide (r.num < 0)), .int .u64 (lo (q.den - 1)), .string (bg (q.den - 1))] ∧ Below w.heap.size w w2) ⟨((((((BX1.out).set 0 _).set 1 _).set 2 _).set 3 _).set 4 _).eq (by simp only [rA, rB, rC]), sc5 (HB.out.trans (HG.out.mono HB.out.size)) (by show w.heap.size ≤ w.heap.size + 1; omega)⟩ ?_
  clear HB HG BX0 BX1
  rintro Wx1 ⟨bx1, HB⟩
  replace HB := Lib.hid HB
  refine wp_ret ?_
  try simp only [Exit.then, Exit.inBlock]
  have lx1 := bx1.cells
  have r0 := Gr.refl Wx1
  exact bodyPost_ret (v := .agg #[.int .u64 (lo r.num.natAbs), .string (bg r.num.natAbs), .bool (decide (r.num < 0)), .int .u64 (lo (q.den - 1)), .string (bg (q.den - 1))]) (by simp [results, Tryz.results61, go_sem, lx1 _ r0]) rfl ⟨rfl, HB.out⟩
theorem fneg_any (q r : Rat) (w : World) (hr : -q = r) :
    Calls Tryz.prog 61 #[(Value.agg #[.int .u64 (lo q.num.natAbs), .string (bg q.num.natAbs), .bool (decide (q.num < 0)), .int .u64 (lo (q.den - 1)), .string (bg (q.den - 1))])] w fun e w' => e = .returned (Value.agg #[.int .u64 (lo r.num.natAbs), .string (bg r.num.natAbs), .bool (decide (r.num < 0)), .int .u64 (lo (r.den - 1)), .string (bg (r.den - 1))]) ∧ Below w.heap.size w w' := by
  have e : q.den = r.den := by rw [← hr]; rfl
  refine (fneg_raw q r (Lib.hid hr) w).mono ?_
  rintro _ w' ⟨rfl, hb⟩
  exact ⟨by rw [e], hb⟩

end Go.Proofs.YtenpbnmmadbkdaaGreat
