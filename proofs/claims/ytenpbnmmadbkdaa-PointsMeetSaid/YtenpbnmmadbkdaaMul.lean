/- nats.Mul: the product. -/
import Derived.Test.YtenpbnmmadbkdaaSub
namespace Go.Proofs.Ytenpbnmmadbkdaa
open Go.RowKit
attribute [local go_sem ↓] Go.wp_at_zero Go.wp_at_succ

theorem vl_set (F : Nat → Nat) {j N : Nat} (v : Nat) (hj : j < N) : vl (fun t => if t = j then v else F t) N + F j * bp j = vl F N + v * bp j := by
  induction N with
  | zero => omega
  | succ N ih =>
    rw [vl_succ, vl_succ]
    by_cases e : j = N
    · subst e
      rw [if_pos rfl, vl_congr (g := F) (fun i hi => by simp [show ¬ i = j by omega])]
      omega
    · have := ih (by omega)
      rw [if_neg (by omega)]
      omega

theorem mul_step {A A' V y d e f c Yk Pk Pi r q t Pj : Nat} (hPj : Pj = Pi * Pk) (ht : t = d * e + f + c) (hr : r + 4294967296 * q = t)
    (hA : A' + f * Pj = A + r * Pj) (h : A + c * Pj = V * y + d * Yk * Pi) : A' + q * (4294967296 * Pj) = V * y + d * (Yk + e * Pk) * Pi := by
  have h1 : r * Pj + q * (4294967296 * Pj) = (d * e + f + c) * Pj := by rw [← ht, ← hr]; grind
  have h2 : (d * e + f + c) * Pj = d * e * Pj + f * Pj + c * Pj := by grind
  have h3 : d * (Yk + e * Pk) * Pi = d * Yk * Pi + d * e * Pj := by rw [hPj]; grind
  omega

/-- the row inside the product: i words of x are done, and k words of y with the next -/
def MulRow (x y i k c g : Nat) (wr : World) (F : Nat → Nat) : Prop :=
  Ws wr g (wl x + wl y) F ∧ (∀ t, t < wl x + wl y → F t < 4294967296) ∧ (∀ t, i + wl y ≤ t → t < wl x + wl y → F t = 0) ∧ vl F (wl x + wl y) + c * bp (i + k) = vl (dg x) i * y + dg x i * vl (dg y) k * bp i

theorem MulRow.step {x y i k c g : Nat} {wr : World} {F : Nat → Nat} (h : MulRow x y i k c g wr F) (hi : i < wl x) (hk : k < wl y) :
    MulRow x y i (k + 1) ((dg x i * dg y k + F (i + k) + c) / 4294967296) g (wr.setCell ⟨g, i + k, none⟩ (.int .u32 (((dg x i * dg y k + F (i + k) + c) % 4294967296 : Nat) : Int)))
      (fun t => if t = i + k then (dg x i * dg y k + F (i + k) + c) % 4294967296 else F t) := by
  obtain ⟨h1, h2, h3, h4⟩ := h
  refine ⟨h1.set _ _, fun t ht => ?_, fun t h5 h6 => ?_, ?_⟩
  · dsimp only
    split
    · exact Nat.mod_lt _ (by decide)
    · exact h2 t ht
  · dsimp only
    rw [if_neg (by omega)]; exact h3 t (by omega) h6
  · rw [vl_succ, ← Nat.add_assoc, bp_succ]
    exact mul_step (bp_add i k) rfl (Nat.mod_add_div _ _) (vl_set F _ (by omega)) h4

theorem MulRow.next {x y i c g : Nat} {wr : World} {F : Nat → Nat} (h : MulRow x y i (wl y) c g wr F) (hi : i < wl x) (hc : c < 4294967296) :
    MulRow x y (i + 1) 0 0 g (wr.setCell ⟨g, i + wl y, none⟩ (.int .u32 ((c : Nat) : Int))) (fun t => if t = i + wl y then c else F t) := by
  obtain ⟨h1, h2, h3, h4⟩ := h
  refine ⟨h1.set _ _, fun t ht => ?_, fun t h5 h6 => ?_, ?_⟩
  · dsimp only
    split
    · exact hc
    · exact h2 t ht
  · dsimp only
    rw [if_neg (by omega)]; exact h3 t (by omega) h6
  · have h5 := vl_set F c (j := i + wl y) (N := wl x + wl y) (by omega)
    rw [h3 _ (Nat.le_refl _) (by omega)] at h5
    rw [vl_dg_of_lt (lt_bp_wl y)] at h4
    rw [vl_succ, vl_zero]
    have h6 : (vl (dg x) i + dg x i * bp i) * y = vl (dg x) i * y + dg x i * y * bp i := by grind
    rw [h6]
    simp only [Nat.zero_mul, Nat.mul_zero, Nat.add_zero] at h5 ⊢
    omega

theorem MulRow.done {x y g : Nat} {wr : World} {F : Nat → Nat} (h : MulRow x y (wl x) 0 0 g wr F) : Ws wr g (wl x + wl y) F ∧ (∀ t, t < wl x + wl y → F t < 4294967296) ∧ vl F (wl x + wl y) = x * y := by
  obtain ⟨h1, h2, _, h4⟩ := h
  refine ⟨h1, h2, ?_⟩
  rw [vl_dg_of_lt (lt_bp_wl x), vl_zero] at h4
  simpa using h4

theorem MulRow.start {x y g : Nat} {wr : World} (h : Ws wr g (wl x + wl y) fun _ => 0) : MulRow x y 0 0 0 g wr (fun _ => 0) :=
  ⟨h, fun _ _ => (by decide : 0 < 4294967296), fun _ _ _ => rfl, by
    rw [vl_tail (m := 0) (Nat.zero_le _) (fun _ _ _ => rfl)]; simp [vl]⟩

/-- the four words of a product of two numbers below 2^64 -/
theorem ws_four (W : World) (z : Nat) (h : z < 340282366920938463463374607431768211456) (c : Array Value)
    (hc : c = #[.int .u32 (((z % 18446744073709551616 : Nat) : Int) % 4294967296), .int .u32 (((z % 18446744073709551616 : Nat) : Int) / 4294967296), .int .u32 (((z / 18446744073709551616 : Nat) : Int) % 4294967296), .int .u32 (((z / 18446744073709551616 : Nat) : Int) / 4294967296)]) :
    Ws (W.alloc (.cells c 22)) W.heap.size 4 (dg z) := by
  subst hc
  refine World.rowIs_alloc W _ _ _ fun i hi => ?_
  have b2 : bp 2 = 18446744073709551616 := bp_two
  have b3 : bp 3 = 79228162514264337593543950336 := by decide
  match i, hi with
  | 0, _ => simp [dg, bp_zero]
  | 1, _ => simp [dg, bp_one]; omega
  | 2, _ => simp [dg, b2]
  | 3, _ => simp [dg, b3]; omega

set_option maxRecDepth 100000 in
theorem mul_small (x y : Nat) (w : World) (hx : x < 18446744073709551616) (hy : y < 18446744073709551616) :
    Calls Try.prog 34 #[(Value.agg #[.int .u64 ((lo (x) : Nat) : Int), .string (bg (x))]), (Value.agg #[.int .u64 ((lo (y) : Nat) : Int), .string (bg (y))])] w fun e w' => e = .returned (Value.agg #[.int .u64 ((lo (x * y) : Nat) : Int), .string (bg (x * y))]) ∧ Below w.heap.size w w' := by
  obtain ⟨W0, HW⟩ : ∃ W0, Hid (((w.alloc (.cells #[.int .u64 ((lo x : Nat) : Int), .string (bg x)] 30)).alloc (.cells #[.int .u64 ((lo y : Nat) : Int), .string (bg y)] 30)).alloc (.cells #[.int .u64 0, .string ⟨#[]⟩] 30) = W0) := ⟨_, Lib.hid rfl⟩
  have HS := Lib.hid (show w.heap.size + 3 = W0.heap.size by rw [← HW.out]; simp)
  have hza : w.heap.size < W0.heap.size := by rw [← HS.out]; omega
  have hzb : w.heap.size + 1 < W0.heap.size := by rw [← HS.out]; omega
  have hzc : w.heap.size + 1 + 1 < W0.heap.size := by rw [← HS.out]; omega
  have hka : W0.cell? ⟨w.heap.size, 0, none⟩ = some (.int .u64 ((lo x : Nat) : Int)) := by rw [← HW.out]; simp [go_sem]
  have hkb : W0.cell? ⟨w.heap.size, 1, none⟩ = some (.string (bg x)) := by rw [← HW.out]; simp [go_sem]
  have hkc : W0.cell? ⟨w.heap.size + 1, 0, none⟩ = some (.int .u64 ((lo y : Nat) : Int)) := by rw [← HW.out]; simp [go_sem]
  have hkd : W0.cell? ⟨w.heap.size + 1, 1, none⟩ = some (.string (bg y)) := by rw [← HW.out]; simp [go_sem]
  have hke : W0.cell? ⟨w.heap.size + 1 + 1, 0, none⟩ = some (.int .u64 0) := by rw [← HW.out]; simp [go_sem]
  have hkf : W0.cell? ⟨w.heap.size + 1 + 1, 1, none⟩ = some (.string ⟨#[]⟩) := by rw [← HW.out]; simp [go_sem]
  have hkg : W0.frozen? ⟨w.heap.size + 1 + 1, 0, none⟩ = false := by rw [← HW.out]; simp [go_sem]
  have hkh : W0.frozen? ⟨w.heap.size + 1 + 1, 1, none⟩ = false := by rw [← HW.out]; simp [go_sem]
  have h0 := Lib.hid (show Below w.heap.size w W0 by rw [← HW.out]; exact (((Below.refl _ _).alloc (Nat.le_refl _) _).alloc (by simp) _).alloc (by simp; omega) _)
  rw [lo_small hx, bg_small hx, lo_small hy, bg_small hy] at *
  have hz : x * y < 340282366920938463463374607431768211456 := by
    have : x * y < 18446744073709551616 * 18446744073709551616 := Nat.mul_lt_mul_of_lt_of_le hx (Nat.le_of_lt hy) (by decide)
    simpa using this
  obtain ⟨z, HZ⟩ : ∃ z, Hid (x * y = z) := ⟨_, Lib.hid rfl⟩
  rw [HZ.out] at hz
  have hv : Hid (vl (dg z) 4 = z) := vl_dg_of_lt (by rw [show bp 4 = 340282366920938463463374607431768211456 from by decide]; exact hz)
  obtain ⟨zl, HL⟩ : ∃ zl, Hid (z % 18446744073709551616 = zl) := ⟨_, Lib.hid rfl⟩
  obtain ⟨zh, HH⟩ : ∃ zh, Hid (z / 18446744073709551616 = zh) := ⟨_, Lib.hid rfl⟩
  have hl : zl < 18446744073709551616 := by rw [← HL.out]; omega
  have hh : zh < 18446744073709551616 := by rw [← HH.out]; omega
  have hzz := Lib.hid hz
  clear hz
  go_enter Try.func34, Try.ntmps34
  go_wp2_with fail
  refine (mul64_any x y hx hy _).mono ?_
  rintro e w1 ⟨rfl, rfl⟩
  rw [HZ.out, HL.out, HH.out]
  go_wp2_with fail
  rw [HW.out]
  have hw := ws_four W0 z hzz.out #[.int .u32 ((zl : Int) % 4294967296), .int .u32 ((zl : Int) / 4294967296), .int .u32 ((zh : Int) % 4294967296), .int .u32 ((zh : Int) / 4294967296)] (by rw [HL.out, HH.out])
  rw [show W0.heap.size = w.heap.size + 1 + 1 + 1 from HS.out.symm] at hw
  refine (of_any (w.heap.size + 1 + 1 + 1) 4 4 (dg z) _ (Nat.le_refl _) (by omega) (by omega) (fun i hi => hw.cell hi) hw.lt (fun i _ => dg_lt z i)).mono ?_
  rintro e w5 ⟨rfl, hb5⟩
  rw [hv.out, ← HZ.out]
  have hall : Below W0.heap.size W0 w5 := grow ((Below.refl _ _).alloc (Nat.le_refl _) _) hb5
  have hr0 := (hall.cell (p := ⟨w.heap.size + 1 + 1, 0, none⟩) hzc).trans hke
  have hr1 := (hall.cell (p := ⟨w.heap.size + 1 + 1, 1, none⟩) hzc).trans hkf
  have hf0 := (hall.frozen (p := ⟨w.heap.size + 1 + 1, 0, none⟩) hzc).trans hkg
  have hf1 := (hall.frozen (p := ⟨w.heap.size + 1 + 1, 1, none⟩) hzc).trans hkh
  have HA := Lib.hid hall
  clear hall hb5
  go_wp2
  exact bodyPost_ret (v := (Value.agg #[.int .u64 ((lo (x * y) : Nat) : Int), .string (bg (x * y))])) (by simp [results, Try.results34, go_sem, hr0, hr1]) rfl
    ⟨rfl, ((grow h0.out HA.out).setCell (by show w.heap.size ≤ w.heap.size + 1 + 1; omega) _).setCell (by show w.heap.size ≤ w.heap.size + 1 + 1; omega) _⟩

set_option maxHeartbeats 1600000 in
set_option maxRecDepth 100000 in
theorem mul_slow (x y : Nat) (w : World) (hx : wl x ≤ 549755813888) (hy : wl y ≤ 549755813888) (h : ¬ (x < 18446744073709551616 ∧ y < 18446744073709551616)) :
    Calls Try.prog 34 #[(Value.agg #[.int .u64 ((lo (x) : Nat) : Int), .string (bg (x))]), (Value.agg #[.int .u64 ((lo (y) : Nat) : Int), .string (bg (y))])] w fun e w' => e = .returned (Value.agg #[.int .u64 ((lo (x * y) : Nat) : Int), .string (bg (x * y))]) ∧ Below w.heap.size w w' := by
  obtain ⟨W0, HW⟩ : ∃ W0, Hid (((w.alloc (.cells #[.int .u64 ((lo x : Nat) : Int), .string (bg x)] 30)).alloc (.cells #[.int .u64 ((lo y : Nat) : Int), .string (bg y)] 30)).alloc (.cells #[.int .u64 0, .string ⟨#[]⟩] 30) = W0) := ⟨_, Lib.hid rfl⟩
  have HS := Lib.hid (show w.heap.size + 3 = W0.heap.size by rw [← HW.out]; simp)
  have hza : w.heap.size < W0.heap.size := by rw [← HS.out]; omega
  have hzb : w.heap.size + 1 < W0.heap.size := by rw [← HS.out]; omega
  have hzc : w.heap.size + 1 + 1 < W0.heap.size := by rw [← HS.out]; omega
  have hka : W0.cell? ⟨w.heap.size, 0, none⟩ = some (.int .u64 ((lo x : Nat) : Int)) := by rw [← HW.out]; simp [go_sem]
  have hkb : W0.cell? ⟨w.heap.size, 1, none⟩ = some (.string (bg x)) := by rw [← HW.out]; simp [go_sem]
  have hkc : W0.cell? ⟨w.heap.size + 1, 0, none⟩ = some (.int .u64 ((lo y : Nat) : Int)) := by rw [← HW.out]; simp [go_sem]
  have hkd : W0.cell? ⟨w.heap.size + 1, 1, none⟩ = some (.string (bg y)) := by rw [← HW.out]; simp [go_sem]
  have hke : W0.cell? ⟨w.heap.size + 1 + 1, 0, none⟩ = some (.int .u64 0) := by rw [← HW.out]; simp [go_sem]
  have hkf : W0.cell? ⟨w.heap.size + 1 + 1, 1, none⟩ = some (.string ⟨#[]⟩) := by rw [← HW.out]; simp [go_sem]
  have hkg : W0.frozen? ⟨w.heap.size + 1 + 1, 0, none⟩ = false := by rw [← HW.out]; simp [go_sem]
  have hkh : W0.frozen? ⟨w.heap.size + 1 + 1, 1, none⟩ = false := by rw [← HW.out]; simp [go_sem]
  have h0 := Lib.hid (show Below w.heap.size w W0 by rw [← HW.out]; exact (((Below.refl _ _).alloc (Nat.le_refl _) _).alloc (by simp) _).alloc (by simp; omega) _)
  have hlaw := held W0
  rcases (show ¬ x < 18446744073709551616 ∨ (x < 18446744073709551616 ∧ ¬ y < 18446744073709551616) by omega) with h1 | ⟨h1, h2⟩
  case' inl =>
    have p1 : (bg x).toList.isEmpty = false := by rw [isEmpty_bg, decide_eq_false h1]
    clear h1 h
    go_enter Try.func34, Try.ntmps34
    go_wp2_with fail
  case' inr =>
    have p1 : (bg x).toList.isEmpty = true := by rw [isEmpty_bg, decide_eq_true h1]
    have p2 : (bg y).toList.isEmpty = false := by rw [isEmpty_bg, decide_eq_false h2]
    clear h1 h2 h
    go_enter Try.func34, Try.ntmps34
    go_wp2_with fail
  all_goals
    rw [HW.out]
    go_region_held3 (fun w' => Below W0.heap.size W0 w') (first | exact (Below.refl _ _).drew | assumption | exact grow (by assumption) (by assumption))
      (first
        | (go_at_call_of 61 (Value.agg #[.int .u64 ((lo (x) : Nat) : Int), .string (bg (x))]); refine (words_any x _ (by omega)).mono ?_; rintro e w1 ⟨b1, c1, rfl, hb1, hc1, hd1, hws1, hbl1⟩)
        | (go_at_call_of 61 (Value.agg #[.int .u64 ((lo (y) : Nat) : Int), .string (bg (y))]); refine (words_any y _ (by omega)).mono ?_; rintro e w2 ⟨b2, c2, rfl, hb2, hc2, hd2, hws2, hbl2⟩))
    have HB : Hid (Below W0.heap.size W0 w2) := by assumption
    have H1 := Lib.hid (hws1.below hbl2 hws1.lt)
    have H2 := Lib.hid hws2
    have hlt1 := H1.out.lt
    have hlt2 := hws2.lt
    clear hws1 hws2 hbl1 hbl2 hb1 hb2 hlaw hd1 hd2
    have hmk := make_ws ((wl x : Int) + (wl y : Int)) (wl x + wl y) (by omega) (by omega)
    go_wp2_with fail
    have HR0 : Hid (MulRow x y 0 0 0 w2.heap.size (w2.alloc (.cells (madeCells #[.int .u32 0] (wl x + wl y)) 22)) fun _ => 0) := MulRow.start (Ws.made w2 _)
    have HB0 : Hid (Below w2.heap.size w2 (w2.alloc (.cells (madeCells #[.int .u32 0] (wl x + wl y)) 22))) := (Below.refl _ _).alloc (Nat.le_refl _) _
    have HMK := Lib.hid hmk
    clear hmk
    go_loopw [55] (fun i wr => ∃ (i' : Nat) (F : Nat → Nat), i' ≤ wl x ∧ i = .int .i64 i' ∧ MulRow x y i' 0 0 w2.heap.size wr F ∧ Below w2.heap.size w2 wr) (fun i _ => wl x - (intOf i).toNat)
    case atStart => exact ⟨0, _, by omega, rfl, HR0.out, HB0.out⟩
    case round =>
      obtain ⟨i, F, hi, rfl, hrow, hbel⟩ := hrel
      clear HR0 HB0
      by_cases hix : i < wl x
      · have hcx : wr.cell? ⟨b1, i, none⟩ = some (.int .u32 ((dg x i : Nat) : Int)) := by
          rw [hbel.cell (p := ⟨b1, i, none⟩) hlt1]
          exact H1.out.cell (by omega)
        have HH := Lib.hid hrow
        have HBE := Lib.hid hbel
        have hdx := dg_lt x i
        clear hrow hbel
        go_wp2_with fail
        obtain ⟨wo, rfl⟩ : ∃ wo : World, wo = wr := ⟨_, rfl⟩
        have HCX := Lib.hid hcx
        clear hcx
        go_loopw [12, 62] (fun c k wr => ∃ (k' c' : Nat) (G : Nat → Nat), k' ≤ wl y ∧ c' < 4294967296 ∧ k = .int .i64 k' ∧ c = .int .u64 c' ∧ MulRow x y i k' c' w2.heap.size wr G ∧ Below w2.heap.size w2 wr) (fun _ k _ => wl y - (intOf k).toNat)
        case atStart => exact ⟨0, 0, F, by omega, by omega, rfl, rfl, HH.out, HBE.out⟩
        case round =>
          obtain ⟨k, c, G, hk, hc, rfl, rfl, hrow, hbel⟩ := hrel
          by_cases hky : k < wl y
          · have hcy : wr.cell? ⟨b2, k, none⟩ = some (.int .u32 ((dg y k : Nat) : Int)) := by
              rw [hbel.cell (p := ⟨b2, k, none⟩) hlt2]
              exact H2.out.cell (by omega)
            have hcell := hrow.1.cell (show i + k < wl x + wl y by omega)
            have hfr := hrow.1.frozen (i + k)
            have hst := Lib.hid (hrow.step hix hky)
            have hv := hrow.2.1 (i + k) (by omega)
            have hdy := dg_lt y k
            obtain ⟨P, hP, HP⟩ : ∃ P : Nat, ((dg x i : Nat) : Int) * ((dg y k : Nat) : Int) = (P : Int) ∧ Hid (dg x i * dg y k = P) := ⟨dg x i * dg y k, (Int.natCast_mul _ _).symm, Lib.hid rfl⟩
            have hPb : P ≤ 18446744065119617025 := by
              rw [← HP.out]
              exact Nat.mul_le_mul (show dg x i ≤ 4294967295 by omega) (show dg y k ≤ 4294967295 by omega)
            obtain ⟨v, HV⟩ : ∃ v, Hid (G (i + k) = v) := ⟨_, Lib.hid rfl⟩
            rw [HV.out] at hcell hst hv
            rw [HP.out] at hst
            have HBE2 := Lib.hid hbel
            clear hbel hrow
            go_wp2_with fail
            go_roundw
            case rel =>
              have e1 : ((c : Int) + ((P : Int) + (v : Int))) / 4294967296 = (((P + v + c) / 4294967296 : Nat) : Int) := by omega
              have e2 : ((c : Int) + ((P : Int) + (v : Int))) % 4294967296 = (((P + v + c) % 4294967296 : Nat) : Int) := by omega
              exact ⟨k + 1, (P + v + c) / 4294967296, _, by omega, by omega, by go_num, by rw [e1], by rw [e2]; exact hst.out, HBE2.out.setCell (Nat.le_refl _) _⟩
            case measure => simp [intOf]; omega
          · obtain rfl : k = wl y := by omega
            have hcell := hrow.1.cell (show i + wl y < wl x + wl y by omega)
            have hfr := hrow.1.frozen (i + wl y)
            have hst := Lib.hid (hrow.next hix hc)
            have HBE2 := Lib.hid hbel
            clear hbel hrow
            go_wp2_with fail
            go_roundw
            case rel =>
              exact ⟨i + 1, _, by omega, by go_num, hst.out, HBE2.out.setCell (Nat.le_refl _) _⟩
            case measure => simp [intOf]; omega
      · obtain rfl : i = wl x := by omega
        obtain ⟨hF, hF2, hF3⟩ := hrow.done
        have HF := Lib.hid hF
        have HF2 := Lib.hid hF2
        have HF3 := Lib.hid hF3
        have HBE := Lib.hid hbel
        clear hF hF2 hF3 hrow hbel
        go_wp2_with fail
        refine (of_any w2.heap.size (wl x + wl y) (wl x + wl y) F _ (Nat.le_refl _) (by omega) (by omega) (fun i hi => HF.out.cell hi) HF.out.lt HF2.out).mono ?_
        rintro e w5 ⟨rfl, hb5⟩
        rw [HF3.out]
        have hall : Below W0.heap.size W0 w5 := grow (grow HB.out HBE.out) hb5
        have hr0 := (hall.cell (p := ⟨w.heap.size + 1 + 1, 0, none⟩) hzc).trans hke
        have hr1 := (hall.cell (p := ⟨w.heap.size + 1 + 1, 1, none⟩) hzc).trans hkf
        have hf0 := (hall.frozen (p := ⟨w.heap.size + 1 + 1, 0, none⟩) hzc).trans hkg
        have hf1 := (hall.frozen (p := ⟨w.heap.size + 1 + 1, 1, none⟩) hzc).trans hkh
        have HA := Lib.hid hall
        clear hall hb5
        go_wp2
        exact bodyPost_ret (v := (Value.agg #[.int .u64 ((lo (x * y) : Nat) : Int), .string (bg (x * y))])) (by simp [results, Try.results34, go_sem, hr0, hr1]) rfl
          ⟨rfl, ((grow h0.out HA.out).setCell (by show w.heap.size ≤ w.heap.size + 1 + 1; omega) _).setCell (by show w.heap.size ≤ w.heap.size + 1 + 1; omega) _⟩

/-- nats.Mul -/
theorem mul_any (x y : Nat) (w : World) (hx : wl x ≤ 549755813888) (hy : wl y ≤ 549755813888) :
    Calls Try.prog 34 #[(Value.agg #[.int .u64 ((lo (x) : Nat) : Int), .string (bg (x))]), (Value.agg #[.int .u64 ((lo (y) : Nat) : Int), .string (bg (y))])] w fun e w' => e = .returned (Value.agg #[.int .u64 ((lo (x * y) : Nat) : Int), .string (bg (x * y))]) ∧ Below w.heap.size w w' := by
  by_cases h : x < 18446744073709551616 ∧ y < 18446744073709551616
  · exact mul_small x y w h.1 h.2
  · exact mul_slow x y w hx hy h
end Go.Proofs.Ytenpbnmmadbkdaa
