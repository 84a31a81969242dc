/- nats.long: the long division. -/
import Derived.Test.YtenpbnmmadbkdaaKnuth
import Derived.Deep.LoopGhost
import Derived.BigGuardPart
import Derived.Deep.CutBlock
namespace Go.Proofs.Ytenpbnmmadbkdaa
open Go.RowKit
attribute [local go_sem ↓] Go.wp_at_zero Go.wp_at_succ

/-- what the long division leaves: the quotient's words, the remainder's -/
def LongPost (a b n m : Nat) (w : World) (e : Ending) (w' : World) : Prop :=
  ∃ gq gu : Nat, e = .returned (.tuple #[.slice (some ⟨gq, 0, none⟩) (m + 1) (m + 1), .slice (some ⟨gu, 0, none⟩) (n + m + 1) (n + m + 1)]) ∧
    Ws w' gq (m + 1) (dg (a / b)) ∧ Ws w' gu (n + m + 1) (dg (a % b)) ∧ Below w.heap.size w w'

set_option maxHeartbeats 4000000 in
set_option maxRecDepth 100000 in
theorem long_any (a b n m bx cx by' cy : Nat) (w : World) (hN : wl b = n) (hA : wl a = n + m) (ha : n + m < 1099511627776) (hb2 : 2 ≤ n)
    (hx : ∀ i, i < n + m → w.cell? ⟨bx, i, none⟩ = some (.int .u32 ((dg a i : Nat) : Int))) (hbx : bx < w.heap.size)
    (hy : ∀ i, i < n → w.cell? ⟨by', i, none⟩ = some (.int .u32 ((dg b i : Nat) : Int))) (hby : by' < w.heap.size) :
    Calls Try.prog 70 #[.slice (some ⟨bx, 0, none⟩) (n + m) cx, .slice (some ⟨by', 0, none⟩) n cy] w (LongPost a b n m w) := by
  have hb0 : 0 < b := by
    rcases Nat.eq_zero_or_pos b with e | e
    · subst e; simp [wl_zero] at hN; omega
    · exact e
  obtain ⟨s, hs, hs32, hV⟩ := norm_shift hb0
  have htop := hy (n - 1) (by omega)
  have HX := Lib.hid hx
  have HY := Lib.hid hy
  have HN := Lib.hid hN
  have HA := Lib.hid hA
  rw [hN] at hs32 hV
  have HVV := Lib.hid hV
  have hd := dg_lt b (n - 1)
  clear hx hy hV hN hA
  have hn1 : (1 : Int) ≤ (n : Int) := by omega
  have hn0 : (0 : Int) ≤ (n : Int) := by omega
  have hnn : (n : Int) ≤ (n : Int) + 1 := by omega
  go_enter Try.func70, Try.ntmps70
  go_wp2_with (go_at_call 78; refine (lz32_any _ _ (by omega) (by omega)).mono ?_; rintro e w' ⟨rfl, rfl⟩)
  go_region_held3 (fun w' => Below w.heap.size w w') (first | exact (Below.refl _ _).drew | assumption | exact grow (by assumption) (by assumption))
    (first
      | (go_at_call_of 79 (Value.slice (some ⟨bx, 0, none⟩) (n + m) cx); refine (shifted_any a bx cx (n + m) s _ (Nat.le_of_lt ha) (fun i hi => ?_) ?_ (by rw [← HA.out]; exact lt_bp_wl a) hs).mono ?_; exact (HX.out i hi); exact hbx; rintro e w1 ⟨bu, rfl, hbu, hwu, hblu⟩; have hu := hblu.size)
      | (go_at_call_of 79 (Value.slice (some ⟨by', 0, none⟩) n cy); refine (shifted_any b by' cy n s _ (by omega) (fun i hi => ?_) ?_ (by rw [← HN.out]; exact lt_bp_wl b) hs).mono ?_; exact ((hblu.cell (p := ⟨by', i, none⟩) hby).trans (HY.out i hi)); exact Nat.lt_of_lt_of_le hby hu; rintro e w2 ⟨bv, rfl, hbv, hwv, hblv⟩))
  have HB2 : Hid (Below w.heap.size w w2) := by assumption
  obtain ⟨U, HU⟩ : ∃ U, Hid (a * 2 ^ s = U) := ⟨_, Lib.hid rfl⟩
  obtain ⟨V, HV⟩ : ∃ V, Hid (b * 2 ^ s = V) := ⟨_, Lib.hid rfl⟩
  rw [HU.out] at hwu
  rw [HV.out] at hwv HVV
  have hbu' : w.heap.size ≤ bu := hbu
  have hbv' : w1.heap.size ≤ bv := hbv
  have hu' : w.heap.size ≤ w1.heap.size := hu
  have hltu := hwu.lt
  have hltv := hwv.lt
  have hne : bv ≠ bu := by omega
  have H1 := Lib.hid (hwu.below hblv hltu)
  have H2 := Lib.hid hwv
  have hltu2 := H1.out.lt
  have hpow : 0 < 2 ^ s := Nat.pow_pos (by decide)
  have hV0 : 0 < V := by rw [← HV.out]; exact Nat.mul_pos hb0 hpow
  have hVlo : Hid (bp (n - 1) ≤ V) := by
    show bp (n - 1) ≤ V
    rw [← HV.out]
    have h1 : bp (n - 1) ≤ b := lt_wl.1 (by rw [HN.out]; omega)
    exact Nat.le_trans h1 (Nat.le_mul_of_pos_right _ hpow)
  have hUlt : Hid (U < V * bp (m + 1)) := by
    show U < V * bp (m + 1)
    rw [← HV.out, ← HU.out, Nat.mul_right_comm]
    refine Nat.mul_lt_mul_of_pos_right ?_ hpow
    have h1 : bp (n - 1) ≤ b := lt_wl.1 (by rw [HN.out]; omega)
    have h2 : a < bp (n + m) := by rw [← HA.out]; exact lt_bp_wl a
    have h3 : bp (n - 1) * bp (m + 1) ≤ b * bp (m + 1) := Nat.mul_le_mul_right _ h1
    rw [← bp_add, show n - 1 + (m + 1) = n + m by omega] at h3
    omega
  clear hwu hwv hbu hbv hblu hblv hu htop hd
  have hmk := make_ws ((n : Int) + (m : Int) + 1 - (n : Int)) (m + 1) (by omega) (by omega)
  have hmk2 := make_ws ((m : Int) + 1) (m + 1) (by omega) (by omega)
  go_wp2_with fail
  have HM1 := Lib.hid hmk
  have HM2 := Lib.hid hmk2
  clear hmk hmk2
  have HQ0 : Hid (Ws (w2.alloc (.cells (madeCells #[.int .u32 0] (m + 1)) 22)) w2.heap.size (m + 1) fun _ => 0) := Ws.made w2 _
  have HU0 : Hid (Ws (w2.alloc (.cells (madeCells #[.int .u32 0] (m + 1)) 22)) bu (n + m + 1) (dg (U % (V * bp (m + 1))))) := by
    show Ws _ _ _ _
    rw [Nat.mod_eq_of_lt hUlt.out]
    exact H1.out.alloc _
  have HV0 : Hid (Ws (w2.alloc (.cells (madeCells #[.int .u32 0] (m + 1)) 22)) bv (n + 1) (dg V)) := H2.out.alloc _
  have HB0 : Hid (Below w.heap.size w (w2.alloc (.cells (madeCells #[.int .u32 0] (m + 1)) 22))) := HB2.out.alloc HB2.out.size _
  obtain ⟨bq, hbq⟩ : ∃ bq, w2.heap.size = bq := ⟨_, rfl⟩
  have hsz2 := HB2.out.size
  have hq1 : w.heap.size ≤ bq := by omega
  have hq2 : bv ≠ bq := by omega
  have hq3 : bu ≠ bq := by omega
  rw [hbq] at HQ0 ⊢
  have HBQ := Lib.hid hbq
  clear H1 H2 HB2 hltu2 hltv hltu hbq hsz2 hu' hbv'
  go_loopw [10] (fun i wr => ∃ j : Nat, j ≤ m + 1 ∧ i = .int .i64 ((j : Int) - 1) ∧ Ws wr bu (n + m + 1) (dg (U % (V * bp j))) ∧ Ws wr bq (m + 1) (fun t => if j ≤ t then dg (U / V) t else 0) ∧ Ws wr bv (n + 1) (dg V) ∧ Below w.heap.size w wr) (fun i _ => (intOf i + 1).toNat)
  case atStart =>
    refine ⟨m + 1, Nat.le_refl _, ?_, HU0.out, HQ0.out.congr fun t ht => by rw [if_neg (by omega)], HV0.out, HB0.out⟩
    go_num
  case round =>
    obtain ⟨j, hj, rfl, hwu, hwq, hwv, hbel⟩ := hrel
    clear HQ0 HU0 HV0 HB0
    rcases j with _ | k
    · have L1 := Lib.hid hwu
      have L2 := Lib.hid (hwq.congr (g := dg (U / V)) fun t _ => by rw [if_pos (Nat.zero_le _)])
      have L3 := Lib.hid hbel
      clear hwu hwq hwv hbel
      rw [show (((0 : Nat) : Int) - 1) = -1 from rfl]
      go_wp2
      have hUV : U % V < bp (n + m + 1) := by
        have h1 := Nat.mod_lt U hV0
        have h2 : bp (n + (m + 1)) = bp n * bp (m + 1) := bp_add _ _
        have h3 := HVV.out
        have h4 : bp n * 1 ≤ bp n * bp (m + 1) := Nat.mul_le_mul_left _ (bp_pos _)
        rw [show n + m + 1 = n + (m + 1) by omega]
        omega
      have HUV := Lib.hid hUV
      clear hUV
      go_loopw [168] (fun i wx => ∃ t : Nat, t ≤ s ∧ i = .int .i64 t ∧ Ws wx bu (n + m + 1) (dg (U % V / 2 ^ t)) ∧ wr.grownBy wx (some bu)) (fun i _ => s - (intOf i).toNat)
      case atStart =>
        refine ⟨0, by omega, rfl, ?_, only_refl _ _⟩
        have := L1.out
        rw [bp_zero, Nat.mul_one] at this
        rw [Nat.pow_zero, Nat.div_one]
        exact this
      case round =>
        obtain ⟨t, ht, rfl, hrow, hon⟩ := hrel
        by_cases hts : t < s
        · have M1 := Lib.hid hrow
          have M2 := Lib.hid hon
          clear hrow hon
          go_wp2_with (go_at_call 81; refine (half_any _ bu _ (n + m + 1) _ (by omega) M1.out (Nat.lt_of_le_of_lt (Nat.div_le_self _ _) HUV.out)).mono ?_; rintro e w' ⟨rfl, k1, k2⟩; have K1 := Lib.hid k1; have K2 := Lib.hid k2; clear k1 k2)
          go_roundw
          case rel =>
            refine ⟨t + 1, by omega, by go_num, ?_, only_trans M2.out K2.out⟩
            rw [Nat.pow_succ, ← Nat.div_div_eq_div_mul]
            exact K1.out
          case measure => simp [intOf]; omega
        · obtain rfl : t = s := by omega
          have M1 := Lib.hid hrow
          have M2 := Lib.hid hon
          clear hrow hon
          go_wp2
          go_ret2
          have hdiv : U / V = a / b := by rw [← HU.out, ← HV.out, Nat.mul_div_mul_right _ _ hpow]
          have hmod : U % V / 2 ^ t = a % b := by rw [← HU.out, ← HV.out, Nat.mul_mod_mul_right, Nat.mul_div_cancel _ hpow]
          refine ⟨bq, bu, rfl, ?_, ?_, L3.out.grown M2.out L3.out.size (fun g hg => by injection hg with hg; omega)⟩
          · rw [← hdiv]
            exact L2.out.only M2.out (Ne.symm hq3)
          · rw [← hmod]
            exact M1.out
    · rw [show (((k + 1 : Nat) : Int) - 1) = (k : Int) from by omega]
      have H1 := Lib.hid hwu
      have H2 := Lib.hid hwq
      have H3 := Lib.hid hwv
      have H4 := Lib.hid hbel
      clear hwu hwq hwv hbel
      have hR : U % (V * bp (k + 1)) < V * bp (k + 1) := Nat.mod_lt _ (Nat.mul_pos hV0 (bp_pos _))
      have hE := est_row hb2 hR HVV.out hVlo.out
      have hW := window hR HVV.out
      obtain ⟨R, HR⟩ : ∃ R, Hid (U % (V * bp (k + 1)) = R) := ⟨_, Lib.hid rfl⟩
      rw [HR.out] at H1 hE hW hR
      have hc1 := H1.out.cell (show k + n < n + m + 1 by omega)
      have hc2 := H1.out.cell (show k + n - 1 < n + m + 1 by omega)
      have hc3 := H1.out.cell (show k + n - 2 < n + m + 1 by omega)
      have hc4 := H3.out.cell (show n - 1 < n + 1 by omega)
      have hc5 := H3.out.cell (show n - 2 < n + 1 by omega)
      obtain ⟨u0, HU0⟩ : ∃ u0, Hid (dg R (k + n) = u0) := ⟨_, Lib.hid rfl⟩
      obtain ⟨u1, HU1⟩ : ∃ u1, Hid (dg R (k + n - 1) = u1) := ⟨_, Lib.hid rfl⟩
      obtain ⟨u2, HU2⟩ : ∃ u2, Hid (dg R (k + n - 2) = u2) := ⟨_, Lib.hid rfl⟩
      obtain ⟨v1, HV1⟩ : ∃ v1, Hid (dg V (n - 1) = v1) := ⟨_, Lib.hid rfl⟩
      obtain ⟨v2, HV2⟩ : ∃ v2, Hid (dg V (n - 2) = v2) := ⟨_, Lib.hid rfl⟩
      obtain ⟨q, HQ⟩ : ∃ q, Hid (R / bp k / V = q) := ⟨_, Lib.hid rfl⟩
      rw [HU0.out] at hE hc1
      rw [HU1.out] at hE hc2
      rw [HU2.out] at hE hc3
      rw [HV1.out] at hE hc4
      rw [HV2.out] at hE hc5
      rw [HQ.out] at hE
      have hu0 := hE.u0_lt
      have hu1 := hE.u1_lt
      have hu2 := hE.u2_lt
      have hv1 := hE.v1_lt
      have hv2 := hE.v2_lt
      have hv0 := hE.v1_pos
      have hq := hE.q_le
      have HE := Lib.hid hE
      have HW := Lib.hid hW
      have HRR := Lib.hid hR
      clear hE hW hR
      have hor := or_top hu0 hu1
      obtain ⟨T, HT⟩ : ∃ T, Hid (u0 * 4294967296 + u1 = T) := ⟨_, Lib.hid rfl⟩
      have hTlt : T < 18446744073709551616 := by rw [← HT.out]; omega
      rw [HT.out] at hor
      obtain ⟨D0, HD0⟩ : ∃ D0, Hid (T / v1 = D0) := ⟨_, Lib.hid rfl⟩
      obtain ⟨R0, HR0⟩ : ∃ R0, Hid (T % v1 = R0) := ⟨_, Lib.hid rfl⟩
      have hd0 : (T : Int) / (v1 : Int) = (D0 : Int) := by rw [← HD0.out]; simp
      have hr0 : (T : Int) % (v1 : Int) = (R0 : Int) := by rw [← HR0.out]; simp
      have hD0 : D0 < 18446744073709551616 := by rw [← HD0.out]; exact Nat.lt_of_le_of_lt (Nat.div_le_self _ _) hTlt
      have hR0 : R0 < v1 := by rw [← HR0.out]; exact Nat.mod_lt _ hv0
      have hv1i : (1 : Int) ≤ (v1 : Int) := by omega
      have hv1z : (((v1 : Nat) : Int) == 0) = false := beq_eq_false_iff_ne.2 (by omega)
      have hi1 : (0 : Int) ≤ (k : Int) + (n : Int) := by omega
      have hi2 : (k : Int) + (n : Int) < (n : Int) + (m : Int) + 1 := by omega
      have hi3 : (0 : Int) ≤ (k : Int) + (n : Int) - 1 := by omega
      have hi4 : (k : Int) + (n : Int) - 1 < (n : Int) + (m : Int) + 1 := by omega
      have hi5 : ((k : Int) + (n : Int) - 1).toNat = k + n - 1 := by omega
      have hi6 : (0 : Int) ≤ (n : Int) - 1 := by omega
      have hi7 : (n : Int) - 1 < (n : Int) := by omega
      have hi8 : ((n : Int) - 1).toNat = n - 1 := by omega
      go_wp2_with fail
      go_step3
      go_wp2_with fail
      go_quiet (fail)
      go_wp2_with fail
      go_quiet (fail)
      go_wp2_with fail
      go_step3
      go_upto_block 2 with fail
      rw [hr0]
      have hHT : Hid (D0 * v1 + R0 = u0 * 4294967296 + u1) := by
        show D0 * v1 + R0 = u0 * 4294967296 + u1
        rw [HT.out, ← HD0.out, ← HR0.out, Nat.mul_comm]
        exact Nat.div_add_mod T v1
      have hq0 : Hid (q ≤ D0) := by
        show q ≤ D0
        rw [← HD0.out, ← HT.out]
        exact HE.out.start
      clear hor hd0 hr0
      go_cut [12] (fun s12 wx => ∃ d z : Nat, s12 = .int .u64 d ∧ q ≤ d ∧ d ≤ q + 1 ∧ d ≤ 4294967295 ∧ wx = wr.drewN z)
      case first =>
        go_wp2_with fail
        go_loopw [12, 13] (fun x y wx => ∃ d r z : Nat, x = .int .u64 d ∧ y = .int .u64 r ∧ q ≤ d ∧ d ≤ D0 ∧ r < 8589934592 ∧ Hid (d * v1 + r = u0 * 4294967296 + u1) ∧ wx = wr.drewN z) (fun x _ _ => (intOf x).toNat)
        case atStart =>
          exact ⟨D0, R0, _, rfl, rfl, hq0.out, Nat.le_refl _, by omega, hHT, World.drewN_drewN _ _ _⟩
        case round =>
          obtain ⟨d, r, z, rfl, rfl, hqd, hdD, hr, HDR, rfl⟩ := hrel
          by_cases hr1 : r ≤ 4294967295
          · obtain ⟨P, hP, HP⟩ : ∃ P : Nat, ((d : Nat) : Int) * ((v2 : Nat) : Int) = (P : Int) ∧ Hid (d * v2 = P) := ⟨d * v2, (Int.natCast_mul _ _).symm, Lib.hid rfl⟩
            have hj1 : (0 : Int) ≤ (k : Int) + (n : Int) - 2 := by omega
            have hj2 : (k : Int) + (n : Int) - 2 < (n : Int) + (m : Int) + 1 := by omega
            have hj3 : ((k : Int) + (n : Int) - 2).toNat = k + n - 2 := by omega
            have hj4 : (0 : Int) ≤ (n : Int) - 2 := by omega
            have hj5 : (n : Int) - 2 < (n : Int) := by omega
            have hj6 : ((n : Int) - 2).toNat = n - 2 := by omega
            have hor2 := or_top (show r < 4294967296 by omega) hu2
            obtain ⟨S, HSS⟩ : ∃ S, Hid (r * 4294967296 + u2 = S) := ⟨_, Lib.hid rfl⟩
            rw [HSS.out] at hor2
            by_cases hd1 : d ≤ 4294967295
            · have hPb : P ≤ 18446744065119617025 := by
                rw [← HP.out]
                exact Nat.mul_le_mul hd1 (show v2 ≤ 4294967295 by omega)
              have hg : decide ((d : Int) ≤ 4294967295) = true := decide_eq_true (by omega)
              by_cases hPS : P ≤ S
              · have hPS2 : decide ((P : Int) ≤ (S : Int)) = true := decide_eq_true (by omega)
                go_wp2_with fail
                go_quiet (fail)
                go_wp2_with fail
                go_meet
                exact ⟨d, _, rfl, hqd, HE.out.low d r HDR.out hd1 (by rw [HP.out, HSS.out]; exact hPS), hd1, World.drewN_drewN _ _ _⟩
              · have hPS2 : decide ((P : Int) ≤ (S : Int)) = false := decide_eq_false (by omega)
                have hqlt : q < d := HE.out.high d r HDR.out (by rw [HP.out, HSS.out]; omega)
                go_wp2_with fail
                go_quiet (fail)
                go_wp2_with fail
                go_roundw
                case rel =>
                  refine ⟨d - 1, r + v1, _, congrArg (Value.int IntKind.u64) (by omega), congrArg (Value.int IntKind.u64) (by omega), by omega, by omega, by omega, ?_, rfl⟩
                  show (d - 1) * v1 + (r + v1) = _
                  rw [← HDR.out]
                  obtain ⟨e, rfl⟩ : ∃ e, d = e + 1 := ⟨d - 1, by omega⟩
                  rw [Nat.add_sub_cancel, Nat.add_mul]
                  omega
                case measure => simp [intOf]; omega
            · have hg : decide ((d : Int) ≤ 4294967295) = false := decide_eq_false (by omega)
              have hqlt : q < d := by omega
              go_wp2_with fail
              go_quiet (fail)
              go_wp2_with fail
              go_roundw
              case rel =>
                refine ⟨d - 1, r + v1, _, congrArg (Value.int IntKind.u64) (by omega), congrArg (Value.int IntKind.u64) (by omega), by omega, by omega, by omega, ?_, rfl⟩
                show (d - 1) * v1 + (r + v1) = _
                rw [← HDR.out]
                obtain ⟨e, rfl⟩ : ∃ e, d = e + 1 := ⟨d - 1, by omega⟩
                rw [Nat.add_sub_cancel, Nat.add_mul]
                omega
              case measure => simp [intOf]; omega
          · obtain ⟨o1, o2⟩ := HE.out.out d r HDR.out (by omega)
            have hlow := HE.out.low d r HDR.out o1 o2
            go_wp2_with fail
            go_meet
            exact ⟨d, _, rfl, hqd, hlow, o1, rfl⟩
      case rest =>
        obtain ⟨d, z, rfl, hqd, hd1, hd2, rfl⟩ := hcut
        clear hi1 hi2 hi3 hi4 hi5 hi6 hi7 hi8 hc1 hc2 hc3 hc4 hc5 hu0 hu1 hu2 hv1 hv2 hv0 hv1i hv1z hTlt hD0 hR0
        have hk1 : (k : Int) ≤ (n : Int) + (m : Int) + 1 := by omega
        go_wp2_with fail
        rw [show k + n + 1 - k = n + 1 from by omega]
        refine (less_any (dg R) k n (n + m + 1) bu bv _ _ V d _ (by omega) (by omega) (by omega) (H1.out.drewN z) (fun t _ => dg_lt R t) (fun i hi => (H3.out.drewN z).cell (by omega)) H3.out.lt hne HVV.out (by omega)).mono ?_
        rintro e w3 ⟨G, ln, rfl, hln, hG, hGl, hGo, hGv, hon⟩
        rw [HW.out.2.2] at hGv
        have K1 := Lib.hid hG
        have K2 := Lib.hid hGl
        have K3 := Lib.hid hGo
        have K4 := Lib.hid hGv
        have K5 := Lib.hid hon
        have K6 : Hid (Ws w3 bv (n + 1) (dg V)) := (H3.out.drewN z).only hon hne
        have K7 : Hid (Ws w3 bq (m + 1) fun t => if k + 1 ≤ t then dg (U / V) t else 0) := (H2.out.drewN z).only hon (Ne.symm hq3)
        have K8 : Hid (Below w.heap.size w w3) := (below_drewN H4.out z).grown hon H4.out.size (fun g hg => by injection hg with hg; omega)
        have hRb : R < bp (k + n + 1) := by
          have h1 := HRR.out
          have h2 : V * bp (k + 1) ≤ bp n * bp (k + 1) := Nat.mul_le_mul_right _ (Nat.le_of_lt HVV.out)
          rw [← bp_add, show n + (k + 1) = k + n + 1 by omega] at h2
          omega
        have HRB := Lib.hid hRb
        clear hG hGl hGo hGv hon hRb
        go_upto_if 125 with fail
        go_cut [12] (fun s12 wx => s12 = .int .u64 q ∧ Ws wx bu (n + m + 1) (dg (U % (V * bp k))) ∧ Ws wx bq (m + 1) (fun t => if k + 1 ≤ t then dg (U / V) t else 0) ∧ Ws wx bv (n + 1) (dg V) ∧ Below w.heap.size w wx)
        case first =>
          rcases (show ln = 0 ∨ ln = 1 by omega) with rfl | rfl
          · have hz := less_zero hV0 K4.out (by rw [HQ.out]; exact hqd)
            have HZ := Lib.hid hz
            clear hz
            go_wp2_with fail
            go_meet
            refine ⟨by rw [HZ.out.1, HQ.out], ?_, K7.out, K6.out, K8.out⟩
            refine K1.out.congr fun t ht => ?_
            rw [row_value (by omega) K2.out K3.out HRB.out t ht, HZ.out.2, ← next_row, ← HR.out, next_rest]
          · have hX : vl (fun t => G (k + t)) (n + 1) < bp (n + 1) := vl_lt fun t ht => K2.out (k + t) (by omega)
            obtain ⟨z1, z2⟩ := less_one K4.out hX (by rw [HQ.out]; exact hd1)
            rw [HQ.out] at z1
            have HZ := Lib.hid z2
            have HZ1 := Lib.hid z1
            have hd0 : 1 ≤ d := by omega
            clear hX z1 z2
            have HBK : Hid (BackRow G k V 0 0 (n + m + 1) bu w3 G) := ⟨K1.out, K2.out, fun _ _ => rfl, by omega, by simp [vl]⟩
            go_wp2_with fail
            rw [show ((d : Int) - 1) = (q : Int) from by have := HZ1.out; omega]
            rw [show decide ((0 : Nat) < 1) = true from rfl]
            clear hqd hd1 hd2 hd0
            go_loopw [14, 130] (fun c i wx => ∃ (i' c' : Nat) (A : Nat → Nat), i' ≤ n ∧ i = .int .i64 i' ∧ c = .int .u32 c' ∧ BackRow G k V i' c' (n + m + 1) bu wx A ∧ w3.grownBy wx (some bu)) (fun _ i _ => n - (intOf i).toNat)
            case atStart => exact ⟨0, 0, G, by omega, rfl, rfl, HBK.out, only_refl _ _⟩
            case round =>
              obtain ⟨i, c, A, hi, rfl, rfl, hrow, hon⟩ := hrel
              have hc := hrow.2.2.2.1
              by_cases hin : i < n
              · have hcell := hrow.1.cell (show k + i < n + m + 1 by omega)
                rw [hrow.2.2.1 _ (.inr (Nat.le_refl _))] at hcell
                have hcell2 := (K6.out.only hon hne).cell (show i < n + 1 by omega)
                have hfr := hrow.1.frozen (k + i)
                have HST := Lib.hid (hrow.step (show k + i < n + m + 1 by omega))
                have hd := dg_lt V i
                have hGi := K2.out (k + i) (by omega)
                have e1 : ((G (k + i) : Int) + (dg V i : Int) + (c : Int)) % 4294967296 = (((G (k + i) + dg V i + c) % 4294967296 : Nat) : Int) := by omega
                have e2 : ((G (k + i) : Int) + (dg V i : Int) + (c : Int)) / 4294967296 = (((G (k + i) + dg V i + c) / 4294967296 : Nat) : Int) := by omega
                have E1 := Lib.hid e1
                have E2 := Lib.hid e2
                have HON := Lib.hid hon
                have hj1 : (0 : Int) ≤ (k : Int) + (i : Int) := by omega
                have hj2 : (k : Int) + (i : Int) < (n : Int) + (m : Int) + 1 := by omega
                clear hrow hon e1 e2
                go_wp2_with (go_at_call 74; refine (add32_any _ _ _ _ (by omega) (by omega) (by omega) (by omega) (by omega) (by omega)).mono ?_; rintro e w' ⟨rfl, rfl⟩)
                go_roundw
                case rel =>
                  refine ⟨i + 1, (G (k + i) + dg V i + c) / 4294967296, fun t => if t = k + i then (G (k + i) + dg V i + c) % 4294967296 else A t, by omega, by go_num, by rw [E2.out], ?_, only_setCell HON.out _ _⟩
                  rw [E1.out]
                  exact HST.out
                case measure => simp [intOf]; omega
              · obtain rfl : i = n := by omega
                have hcell := hrow.1.cell (show k + i < i + m + 1 by omega)
                rw [hrow.2.2.1 _ (.inr (Nat.le_refl _))] at hcell
                have hfr := hrow.1.frozen (k + i)
                have HST := Lib.hid (hrow.last (by omega) HVV.out HZ.out)
                have hGi := K2.out (k + i) (by omega)
                have e1 : ((G (k + i) : Int) + (c : Int)) % 4294967296 = (((G (k + i) + c) % 4294967296 : Nat) : Int) := by omega
                have E1 := Lib.hid e1
                have HON := Lib.hid hon
                have hj1 : (0 : Int) ≤ (k : Int) + (i : Int) := by omega
                have hj2 : (k : Int) + (i : Int) < (i : Int) + (m : Int) + 1 := by omega
                clear hrow hon e1
                go_wp2_with fail
                go_meet
                rw [E1.out]
                obtain ⟨s1, s2, s3, s4⟩ := HST.out
                have hon2 := only_setCell HON.out (k + i) (.int .u32 (((G (k + i) + c) % 4294967296 : Nat) : Int))
                refine ⟨rfl, ?_, K7.out.only hon2 (Ne.symm hq3), K6.out.only hon2 hne, K8.out.grown hon2 K8.out.size (fun g hg => by injection hg with hg; omega)⟩
                refine s1.congr fun t ht => ?_
                rw [row_value (G := fun t => if t = k + i then (G (k + i) + c) % 4294967296 else A t) (by omega) s2 (fun t ht => (s3 t ht).trans (K3.out t ht)) HRB.out t ht, s4, ← next_row, ← HR.out, next_rest]
        case rest =>
          obtain ⟨rfl, J1, J2, J3, J4⟩ := hcut
          have hck := J2.cell (show k < m + 1 by omega)
          have hfk := J2.frozen k
          have L1 := Lib.hid J1
          have L2 := Lib.hid J2
          have L3 := Lib.hid J3
          have L4 := Lib.hid J4
          have hqd : Hid (dg (U / V) k = q) := by
            show dg (U / V) k = q
            rw [← HQ.out, ← HR.out, next_digit]
          clear J1 J2 J3 J4
          go_wp2_with fail
          rw [Exit.noGoto_normal]
          go_wp2_with fail
          go_roundw
          case rel =>
            refine ⟨k, by omega, (by go_num), L1.out.setOther hq3 _, ?_, L3.out.setOther hq2 _, L4.out.setCell hq1 _⟩
            refine (L2.out.set k q).congr fun t ht => ?_
            by_cases e : t = k
            · simp [e, hqd.out]
            · have e2 : (k + 1 ≤ t) ↔ (k ≤ t) := by omega
              simp [e, e2]
          case measure => simp [intOf]
end Go.Proofs.Ytenpbnmmadbkdaa
