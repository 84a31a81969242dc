/- nats.Add: the sum. -/
import Derived.Test.YtenpbnmmadbkdaaCmp
import Derived.Test.YtenpbnmmadbkdaaBits
namespace Go.Proofs.Ytenpbnmmadbkdaa
open Go.RowKit
attribute [local go_sem ↓] Go.wp_at_zero Go.wp_at_succ

/-- one step of the addition with carry -/
theorem add_step {A X Y c P d e : Nat} (h : A + c * P = X + Y) : A + (d + e + c) % 4294967296 * P + (d + e + c) / 4294967296 * (4294967296 * P) = X + d * P + (Y + e * P) := by
  have h1 : (d + e + c) % 4294967296 * P + (d + e + c) / 4294967296 * (4294967296 * P) = (d + e + c) * P := by
    rw [← Nat.mul_assoc, ← Nat.add_mul]
    congr 1
    omega
  have h2 : (d + e + c) * P = d * P + e * P + c * P := by rw [Nat.add_mul, Nat.add_mul]
  omega

/-- the row after j words: the sum's words below j, then p's -/
def AddRow (p q j cr : Nat) (g : Nat) (wr : World) : Prop :=
  ∃ F : Nat → Nat, Ws wr g (wl p + 1) F ∧ (∀ t, t < wl p + 1 → F t < 4294967296) ∧ (∀ t, j ≤ t → t < wl p + 1 → F t = dg p t) ∧ vl F j + cr * bp j = vl (dg p) j + vl (dg q) j

theorem AddRow.step {p q j cr g : Nat} {wr : World} (h : AddRow p q j cr g wr) :
    AddRow p q (j + 1) ((dg p j + dg q j + cr) / 4294967296) g (wr.setCell ⟨g, j, none⟩ (.int .u32 (((dg p j + dg q j + cr) % 4294967296 : Nat) : Int))) := by
  obtain ⟨F, h1, h2, h3, h4⟩ := h
  refine ⟨_, h1.set j _, fun t ht => ?_, fun t h5 h6 => ?_, ?_⟩
  · by_cases e : t = j
    · simp only [e, if_true]; exact Nat.mod_lt _ (by decide)
    · simp only [e, if_false]; exact h2 t ht
  · simp only [show ¬ t = j by omega, if_false]; exact h3 t (by omega) h6
  · rw [vl_succ, vl_succ, vl_succ, bp_succ, if_pos rfl, vl_congr (g := F) (fun i hi => by simp [show ¬ i = j by omega])]
    exact add_step h4

theorem AddRow.done {p q cr g : Nat} {wr : World} (h : AddRow p q (wl p + 1) cr g wr) (hq : wl q ≤ wl p) : ∃ F : Nat → Nat, Ws wr g (wl p + 1) F ∧ (∀ t, t < wl p + 1 → F t < 4294967296) ∧ vl F (wl p + 1) = p + q := by
  obtain ⟨F, h1, h2, _, h4⟩ := h
  refine ⟨F, h1, h2, ?_⟩
  have a := lt_bp_wl p
  have b := Nat.lt_of_lt_of_le (lt_bp_wl q) (bp_le hq)
  have c := bp_succ (wl p)
  rw [vl_dg_of_lt (by omega), vl_dg_of_lt (by omega)] at h4
  rcases Nat.eq_zero_or_pos cr with e | e
  · rw [e] at h4; omega
  · have : 1 * bp (wl p + 1) ≤ cr * bp (wl p + 1) := Nat.mul_le_mul_right _ e
    omega

/-- what holds when the words of both numbers lie there, the longer first -/
def AddCut (x y : Nat) (W0 : World) (s7 s8 : Value) (wx : World) : Prop :=
  ∃ p q b1 c1 b2 c2 : Nat, s7 = .slice (some ⟨b1, 0, none⟩) (wl p) c1 ∧ s8 = .slice (some ⟨b2, 0, none⟩) (wl q) c2 ∧ p + q = x + y ∧ wl q ≤ wl p ∧ wl p ≤ max (wl x) (wl y) ∧ wl p ≤ c1 ∧ wl q ≤ c2 ∧
    Ws wx b1 c1 (dg p) ∧ Ws wx b2 c2 (dg q) ∧ Below W0.heap.size W0 wx

theorem isEmpty_bg (n : Nat) : (bg n).toList.isEmpty = decide (n < 18446744073709551616) := by
  by_cases h : n < 18446744073709551616
  · rw [toList_bg_small h, decide_eq_true h]; rfl
  · have := toList_bg_ne h
    rw [decide_eq_false h]
    simpa using this

/-- the sum of two numbers below 2^64 that stays there -/
theorem add_small (x y : Nat) (w : World) (h : x + y < 18446744073709551616) :
    Calls Try.prog 62 #[(Value.agg #[.int .u64 ((lo (x) : Nat) : Int), .string (bg (x))]), (Value.agg #[.int .u64 ((lo (y) : Nat) : Int), .string (bg (y))])] w fun e w' => e = .returned (Value.agg #[.int .u64 ((lo (x + y) : Nat) : Int), .string (bg (x + y))]) ∧ Below w.heap.size w w' := by
  rw [lo_small (show x < 18446744073709551616 by omega), lo_small (show y < 18446744073709551616 by omega), lo_small h, bg_small (show x < 18446744073709551616 by omega), bg_small (show y < 18446744073709551616 by omega), bg_small h]
  have ha := add64_call x y
  have e1 : (x + y) / 18446744073709551616 = 0 := Nat.div_eq_of_lt h
  have e2 : (x + y) % 18446744073709551616 = x + y := Nat.mod_eq_of_lt h
  rw [e1, e2] at ha
  clear e1 e2
  go_enter Try.func62, Try.ntmps62
  go_wp2
  exact bodyPost_ret (v := .agg #[.int .u64 ((x + y : Nat) : Int), .string ⟨#[]⟩]) (by simp [results, Try.results62, go_sem]) rfl ⟨rfl, (((Below.refl _ _).alloc (Nat.le_refl _) _).alloc (by simp) _).alloc (by simp; omega) _⟩

set_option maxHeartbeats 1600000 in
set_option maxRecDepth 100000 in
theorem add_slow (x y : Nat) (w : World) (hx : wl x ≤ 549755813888) (hy : wl y ≤ 549755813888) (h : ¬ x + y < 18446744073709551616) :
    Calls Try.prog 62 #[(Value.agg #[.int .u64 ((lo (x) : Nat) : Int), .string (bg (x))]), (Value.agg #[.int .u64 ((lo (y) : Nat) : Int), .string (bg (y))])] w fun e w' => e = .returned (Value.agg #[.int .u64 ((lo (x + y) : Nat) : Int), .string (bg (x + y))]) ∧ Below w.heap.size w w' := by
  obtain ⟨W0, HW⟩ : ∃ W0, Hid (((w.alloc (.cells #[.int .u64 ((lo x : Nat) : Int), .string (bg x)] 30)).alloc (.cells #[.int .u64 ((lo y : Nat) : Int), .string (bg y)] 30)).alloc (.cells #[.int .u64 0, .string ⟨#[]⟩] 30) = W0) := ⟨_, Lib.hid rfl⟩
  have HS := Lib.hid (show w.heap.size + 3 = W0.heap.size by rw [← HW.out]; simp)
  have hza : w.heap.size < W0.heap.size := by rw [← HS.out]; omega
  have hzb : w.heap.size + 1 < W0.heap.size := by rw [← HS.out]; omega
  have hzc : w.heap.size + 2 < W0.heap.size := by rw [← HS.out]; omega
  have hka : W0.cell? ⟨w.heap.size, 0, none⟩ = some (.int .u64 ((lo x : Nat) : Int)) := by rw [← HW.out]; simp [go_sem]
  have hkb : W0.cell? ⟨w.heap.size, 1, none⟩ = some (.string (bg x)) := by rw [← HW.out]; simp [go_sem]
  have hkc : W0.cell? ⟨w.heap.size + 1, 0, none⟩ = some (.int .u64 ((lo y : Nat) : Int)) := by rw [← HW.out]; simp [go_sem]
  have hkd : W0.cell? ⟨w.heap.size + 1, 1, none⟩ = some (.string (bg y)) := by rw [← HW.out]; simp [go_sem]
  have hke : W0.cell? ⟨w.heap.size + 1 + 1, 0, none⟩ = some (.int .u64 0) := by rw [← HW.out]; simp [go_sem]
  have hkf : W0.cell? ⟨w.heap.size + 1 + 1, 1, none⟩ = some (.string ⟨#[]⟩) := by rw [← HW.out]; simp [go_sem]
  have hkg : W0.frozen? ⟨w.heap.size + 1 + 1, 0, none⟩ = false := by rw [← HW.out]; simp [go_sem]
  have hkh : W0.frozen? ⟨w.heap.size + 1 + 1, 1, none⟩ = false := by rw [← HW.out]; simp [go_sem]
  have h0 := Lib.hid (show Below w.heap.size w W0 by rw [← HW.out]; exact (((Below.refl _ _).alloc (Nat.le_refl _) _).alloc (by simp) _).alloc (by simp; omega) _)
  have hlaw := held W0
  have ha := add64_call (lo x) (lo y)
  rcases (show (x < 18446744073709551616 ∧ y < 18446744073709551616) ∨ ¬ x < 18446744073709551616 ∨ (x < 18446744073709551616 ∧ ¬ y < 18446744073709551616) by omega) with ⟨h1, h2⟩ | h1 | ⟨h1, h2⟩
  case' inl =>
    have e1 : (lo x + lo y) / 18446744073709551616 = 1 := by rw [lo_small h1, lo_small h2]; omega
    have p1 : (bg x).toList.isEmpty = true := by rw [isEmpty_bg, decide_eq_true h1]
    have p2 : (bg y).toList.isEmpty = true := by rw [isEmpty_bg, decide_eq_true h2]
    rw [e1] at ha
    clear e1 h1 h2
    go_enter Try.func62, Try.ntmps62
    go_wp2_with fail
  case' inr.inl =>
    have p1 : (bg x).toList.isEmpty = false := by rw [isEmpty_bg, decide_eq_false h1]
    clear h1 ha
    go_enter Try.func62, Try.ntmps62
    go_wp2_with fail
  case' inr.inr =>
    have p1 : (bg x).toList.isEmpty = true := by rw [isEmpty_bg, decide_eq_true h1]
    have p2 : (bg y).toList.isEmpty = false := by rw [isEmpty_bg, decide_eq_false h2]
    clear h1 h2 ha
    go_enter Try.func62, Try.ntmps62
    go_wp2_with fail
  all_goals
    rw [HW.out]
    go_region_held3 (fun w' => Below W0.heap.size W0 w') (first | exact (Below.refl _ _).drew | assumption | exact grow (by assumption) (by assumption))
      (first
        | (go_at_call_of 61 (Value.agg #[.int .u64 ((lo (x) : Nat) : Int), .string (bg (x))]); refine (words_any x _ (by omega)).mono ?_; rintro e w1 ⟨b1, c1, rfl, hb1, hc1, hd1, hws1, hbl1⟩)
        | (go_at_call_of 61 (Value.agg #[.int .u64 ((lo (y) : Nat) : Int), .string (bg (y))]); refine (words_any y _ (by omega)).mono ?_; rintro e w2 ⟨b2, c2, rfl, hb2, hc2, hd2, hws2, hbl2⟩))
    have HB : Hid (Below W0.heap.size W0 w2) := by assumption
    have H1 := Lib.hid (hws1.below hbl2 hws1.lt)
    have H2 := Lib.hid hws2
    have H3 := Lib.hid hb1
    have H4 := Lib.hid hb2
    clear hws1 hws2 hbl1 hbl2 hb1 hb2 hlaw hd1 hd2
    go_upto_if 41 with fail
    go_cut [7, 8] (fun s7 s8 wx => AddCut x y W0 s7 s8 wx)
    case first =>
      by_cases hlt : wl x < wl y
      · go_wp2_with fail
        go_meet
        exact ⟨y, x, b2, c2, b1, c1, rfl, rfl, Nat.add_comm _ _, Nat.le_of_lt hlt, Nat.le_max_right _ _, hc2, hc1, H2.out, H1.out, HB.out⟩
      · go_wp2_with fail
        go_meet
        exact ⟨x, y, b1, c1, b2, c2, rfl, rfl, rfl, by omega, Nat.le_max_left _ _, hc1, hc2, H1.out, H2.out, HB.out⟩
    case rest =>
      clear hc1 hc2 H1 H2 H3 H4 HB
      obtain ⟨p, q, b1, c1, b2, c2, rfl, rfl, hpq, hqp, hpm, hc1, hc2, H1, H2, H3⟩ := hcut
      have HPQ := Lib.hid hpq
      have hp40 : wl p ≤ 549755813888 := by omega
      clear hpq hpm
      have hmk := make_ws ((wl p : Int) + 1) (wl p + 1) (by omega) (by omega)
      have HF : Hid (Ws (wc.alloc (.cells (madeCells #[.int .u32 0] (wl p + 1)) 22)) wc.heap.size (wl p + 1) fun _ => 0) := Ws.made wc _
      have HB : Hid (Below wc.heap.size wc (wc.alloc (.cells (madeCells #[.int .u32 0] (wl p + 1)) 22))) := (Below.refl _ _).alloc (Nat.le_refl _) _
      have HX : Hid (∀ i, i < wl p → (wc.alloc (.cells (madeCells #[.int .u32 0] (wl p + 1)) 22)).cell? ⟨b1, i, none⟩ = some (.int .u32 ((dg p i : Nat) : Int))) := fun i hi => (H1.alloc _).cell (by omega)
      have HY := Lib.hid H2
      have HZ := Lib.hid H3
      have hb2 := H2.lt
      clear H1 H2 H3
      go_wp2_with (with_reducible refine copy_ws rfl (.tmp 48) (.tmp 49) rfl wc.heap.size (wl p + 1) (wl p + 1) b1 (wl p) c1 rfl rfl (Nat.le_succ _) (fun _ => 0) (dg p) HF.out HX.out wc.heap.size wc HB.out (Nat.le_refl _) ?_; intro w3 H4 H5 hs3; have H4 := Lib.hid H4; have H5 := Lib.hid H5; have HS3 := Lib.hid hs3; clear hs3)
      have HR0 : Hid (AddRow p q 0 0 wc.heap.size w3) := ⟨_, H4.out, fun t ht => by
        by_cases e : t < wl p
        · simp only [e, if_true]; exact dg_lt _ _
        · simp only [e, if_false]; decide, fun t _ ht => by
        by_cases e : t < wl p
        · simp only [e, if_true]
        · simp only [e, if_false]; exact (dg_high (lt_bp_wl p) (by omega)).symm, rfl⟩
      clear H4 HF HB HX
      go_loopw [10, 53] (fun c i wr => ∃ j cr : Nat, j ≤ wl p + 1 ∧ cr ≤ 1 ∧ i = .int .i64 j ∧ c = .int .u32 cr ∧ AddRow p q j cr wc.heap.size wr ∧ Below wc.heap.size wc wr) (fun _ i _ => wl p + 1 - (intOf i).toNat)
      case atStart => exact ⟨0, 0, by omega, by omega, rfl, rfl, HR0.out, H5.out⟩
      case round =>
        obtain ⟨j, cr, hj, hcr, rfl, rfl, hrow, hbel⟩ := hrel
        clear HR0 H5 HS3
        by_cases hjp : j < wl p + 1
        · have HH := Lib.hid hrow
          obtain ⟨F, hF, hF2, hF3, _⟩ := hrow
          have hcell := hF.cell hjp
          rw [hF3 j (Nat.le_refl _) hjp] at hcell
          have hfr := hF.frozen j
          have hdp := dg_lt p j
          have hdq := dg_lt q j
          have HBE := Lib.hid hbel
          have hcy : j < wl q → wr.cell? ⟨b2, j, none⟩ = some (.int .u32 ((dg q j : Nat) : Int)) := fun h => by
            rw [hbel.cell (p := ⟨b2, j, none⟩) hb2]
            exact HY.out.cell (by omega)
          have HCY := Lib.hid hcy
          have e1 : ((dg p j : Int) + (dg q j : Int) + (cr : Int)) % 4294967296 = (((dg p j + dg q j + cr) % 4294967296 : Nat) : Int) := by omega
          have e2 : ((dg p j : Int) + (dg q j : Int) + (cr : Int)) / 4294967296 = (((dg p j + dg q j + cr) / 4294967296 : Nat) : Int) := by omega
          have E1 := Lib.hid e1
          have E2 := Lib.hid e2
          clear hcy hbel hF hF2 hF3 e1 e2
          by_cases hjq : j < wl q
          · have hc2 := HCY.out hjq
            go_wp2_with (go_at_call 74; refine (add32_any _ _ _ _ (by omega) (by omega) (by omega) (by omega) (by omega) (by omega)).mono ?_; rintro e w' ⟨rfl, rfl⟩)
            go_roundw
            case rel =>
              refine ⟨j + 1, (dg p j + dg q j + cr) / 4294967296, by omega, by omega, by go_num, by rw [E2.out], ?_, ?_⟩
              · rw [E1.out]
                exact HH.out.step
              · exact HBE.out.setCell (Nat.le_refl _) _
            case measure => simp [intOf]; omega
          · have hz : dg q j = 0 := dg_high (lt_bp_wl q) (by omega)
            have HZ2 := Lib.hid hz
            clear hz
            go_wp2_with (go_at_call 74; refine (add32_any _ _ _ _ (by omega) (by omega) (by omega) (by omega) (by omega) (by omega)).mono ?_; rintro e w' ⟨rfl, rfl⟩)
            go_roundw
            case rel =>
              have e4 : ((dg p j : Int) + (cr : Int)) / 4294967296 = (((dg p j + dg q j + cr) / 4294967296 : Nat) : Int) := by rw [HZ2.out]; omega
              have e5 : ((dg p j : Int) + (cr : Int)) % 4294967296 = (((dg p j + dg q j + cr) % 4294967296 : Nat) : Int) := by rw [HZ2.out]; omega
              refine ⟨j + 1, (dg p j + dg q j + cr) / 4294967296, by omega, by omega, by go_num, by rw [e4], ?_, ?_⟩
              · rw [e5]
                exact HH.out.step
              · exact HBE.out.setCell (Nat.le_refl _) _
            case measure => simp [intOf]; omega
        · obtain rfl : j = wl p + 1 := by omega
          obtain ⟨F, hF, hF2, hF3⟩ := hrow.done hqp
          have HF := Lib.hid hF
          have HF2 := Lib.hid hF2
          have HF3 := Lib.hid hF3
          have HBE := Lib.hid hbel
          clear hF hF2 hF3 hrow hbel
          go_wp2_with fail
          refine (of_any wc.heap.size (wl p + 1) (wl p + 1) F _ (Nat.le_refl _) (by omega) (by omega) (fun i hi => HF.out.cell hi) HF.out.lt HF2.out).mono ?_
          rintro e w5 ⟨rfl, hb5⟩
          rw [HF3.out, HPQ.out]
          have hall : Below W0.heap.size W0 w5 := grow (grow HZ.out HBE.out) hb5
          have hr0 := (hall.cell (p := ⟨w.heap.size + 1 + 1, 0, none⟩) hzc).trans hke
          have hr1 := (hall.cell (p := ⟨w.heap.size + 1 + 1, 1, none⟩) hzc).trans hkf
          have hf0 := (hall.frozen (p := ⟨w.heap.size + 1 + 1, 0, none⟩) hzc).trans hkg
          have hf1 := (hall.frozen (p := ⟨w.heap.size + 1 + 1, 1, none⟩) hzc).trans hkh
          have HA := Lib.hid hall
          clear hall hb5
          go_wp2
          exact bodyPost_ret (v := (Value.agg #[.int .u64 ((lo (x + y) : Nat) : Int), .string (bg (x + y))])) (by simp [results, Try.results62, go_sem, hr0, hr1]) rfl
            ⟨rfl, ((grow h0.out HA.out).setCell (by show w.heap.size ≤ w.heap.size + 1 + 1; omega) _).setCell (by show w.heap.size ≤ w.heap.size + 1 + 1; omega) _⟩

/-- nats.Add -/
theorem add_any (x y : Nat) (w : World) (hx : wl x ≤ 549755813888) (hy : wl y ≤ 549755813888) :
    Calls Try.prog 62 #[(Value.agg #[.int .u64 ((lo (x) : Nat) : Int), .string (bg (x))]), (Value.agg #[.int .u64 ((lo (y) : Nat) : Int), .string (bg (y))])] w fun e w' => e = .returned (Value.agg #[.int .u64 ((lo (x + y) : Nat) : Int), .string (bg (x + y))]) ∧ Below w.heap.size w w' := by
  by_cases h : x + y < 18446744073709551616
  · exact add_small x y w h
  · exact add_slow x y w hx hy h
end Go.Proofs.Ytenpbnmmadbkdaa
