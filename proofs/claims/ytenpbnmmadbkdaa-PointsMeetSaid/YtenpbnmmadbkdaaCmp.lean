/- nats.cmp, nats.Cmp: the order of numbers. -/
import Derived.Test.YtenpbnmmadbkdaaOf
import Derived.Deep.RegionHeld3
import Derived.Deep.DeepCutAuto
import Derived.Deep.DrawnRows
namespace Go.Proofs.Ytenpbnmmadbkdaa
open Go.RowKit
attribute [local go_sem ↓] Go.wp_at_zero Go.wp_at_succ

/-- the order as a number -/
def cmpI (x y : Int) : Int := if x < y then -1 else if y < x then 1 else 0
theorem cmpI_lt {x y : Int} (h : x < y) : cmpI x y = -1 := if_pos h
theorem cmpI_gt {x y : Int} (h : y < x) : cmpI x y = 1 := by unfold cmpI; rw [if_neg (by omega), if_pos h]
theorem cmpI_eq {x y : Int} (h : x = y) : cmpI x y = 0 := by unfold cmpI; rw [if_neg (by omega), if_neg (by omega)]

def CmpPost (x y : Nat) (w : World) (e : Ending) (w' : World) : Prop := e = .returned (.int .i64 (cmpI x y)) ∧ Below w.heap.size w w'

theorem cmp_words (x y b c b' c' : Nat) (w : World) (hx : wl x ≤ 1099511627776) (hy : wl y ≤ 1099511627776)
    (hcx : ∀ i, i < wl x → w.cell? ⟨b, i, none⟩ = some (.int .u32 ((dg x i : Nat) : Int)))
    (hcy : ∀ i, i < wl y → w.cell? ⟨b', i, none⟩ = some (.int .u32 ((dg y i : Nat) : Int))) :
    Calls Try.prog 76 #[.slice (some ⟨b, 0, none⟩) (wl x) c, .slice (some ⟨b', 0, none⟩) (wl y) c'] w (CmpPost x y w) := by
  obtain ⟨n, HN⟩ : ∃ n, Hid (wl x = n) := ⟨_, Lib.hid rfl⟩
  obtain ⟨m, HM⟩ : ∃ m, Hid (wl y = m) := ⟨_, Lib.hid rfl⟩
  rw [HN.out] at hx hcx ⊢
  rw [HM.out] at hy hcy ⊢
  have HX := Lib.hid hcx
  have HY := Lib.hid hcy
  clear hcx hcy
  by_cases hnm : n = m
  · subst hnm
    have hne : (((n : Nat) : Int) != ((n : Nat) : Int)) = false := by simp
    go_enter Try.func76, Try.ntmps76
    go_wp2_with fail
    go_loopw [5] (fun i wr => ∃ j : Nat, j ≤ n ∧ i = .int .i64 ((j : Int) - 1) ∧ (∀ t, j ≤ t → t < n → dg x t = dg y t) ∧ ∃ q, wr = w.drewN q) (fun i _ => (intOf i + 1).toNat)
    case atStart => exact ⟨n, Nat.le_refl _, rfl, fun t h1 h2 => by omega, 0, rfl⟩
    case round =>
      obtain ⟨j, hj, rfl, heq, q, rfl⟩ := hrel
      rcases j with _ | j
      · have hxy : x = y := by
          rw [← vl_dg_of_lt (lt_bp_wl x), ← vl_dg_of_lt (lt_bp_wl y), HN.out, HM.out]
          exact vl_congr fun t ht => heq t (Nat.zero_le _) ht
        have HE := Lib.hid hxy
        clear heq hxy
        rw [show (((0 : Nat) : Int) - 1) = -1 from rfl]
        go_wp2
        go_ret
        exact ⟨by rw [HE.out, cmpI_eq rfl]; rfl, below_drewN (Below.refl _ _) _⟩
      · rw [show (((j + 1 : Nat) : Int) - 1) = (j : Int) from by omega]
        have h1 := HX.out j (by omega)
        have h2 := HY.out j (by omega)
        have HQ := Lib.hid heq
        clear heq
        have hi0 : (0 : Int) ≤ (j : Int) := by omega
        have hi1 : (j : Int) < (n : Int) := by omega
        by_cases e : dg x j = dg y j
        · have e1 : (((dg x j : Nat) : Int) != ((dg y j : Nat) : Int)) = false := by simp [e]
          have HE := Lib.hid e
          clear e
          go_wp2_with fail
          go_quiet (fail)
          go_wp2
          go_roundw
          case rel => exact ⟨j, by omega, rfl, fun t h1 h2 => by
            rcases Nat.eq_or_lt_of_le h1 with h | h
            · exact h ▸ HE.out
            · exact HQ.out t h h2, _, rfl⟩
          case measure => simp [intOf]
        · have e1 : (((dg x j : Nat) : Int) != ((dg y j : Nat) : Int)) = true := by rw [bne_iff_ne]; omega
          have HE := Lib.hid e
          clear e
          by_cases l : dg x j < dg y j
          · have hres : x < y := by
              rw [← vl_dg_of_lt (lt_bp_wl x), ← vl_dg_of_lt (lt_bp_wl y), HN.out, HM.out]
              exact vl_less (i := j) (by omega) (fun _ _ => dg_lt _ _) (fun t h1 h2 => HQ.out t h1 h2) l
            have HR := Lib.hid (show cmpI x y = -1 from cmpI_lt (by omega))
            have l1 : decide (((dg x j : Nat) : Int) < ((dg y j : Nat) : Int)) = true := decide_eq_true (by omega)
            clear hres
            go_wp2_with fail
            go_quiet (fail)
            go_wp2_with fail
            go_quiet (fail)
            go_wp2
            go_ret
            exact ⟨by rw [HR.out]; rfl, below_drewN (below_drewN (below_drewN (Below.refl _ _) _) _) _⟩
          · have hres : y < x := by
              rw [← vl_dg_of_lt (lt_bp_wl x), ← vl_dg_of_lt (lt_bp_wl y), HN.out, HM.out]
              exact vl_less (i := j) (by omega) (fun _ _ => dg_lt _ _) (fun t h1 h2 => (HQ.out t h1 h2).symm) (by have := HE.out; omega)
            have HR := Lib.hid (show cmpI x y = 1 from cmpI_gt (by omega))
            have l1 : decide (((dg x j : Nat) : Int) < ((dg y j : Nat) : Int)) = false := decide_eq_false (by omega)
            clear hres
            go_wp2_with fail
            go_quiet (fail)
            go_wp2_with fail
            go_quiet (fail)
            go_wp2
            go_ret
            exact ⟨by rw [HR.out]; rfl, below_drewN (below_drewN (below_drewN (Below.refl _ _) _) _) _⟩
  · have hne : (((n : Nat) : Int) != ((m : Nat) : Int)) = true := by rw [bne_iff_ne]; omega
    have hres : cmpI x y = max (-1) (min 1 ((n : Int) - (m : Int))) := by
      have h1 := @wl_le x m
      have h2 := lt_bp_wl y
      have h3 := @wl_le y n
      have h4 := lt_bp_wl x
      rcases Nat.lt_or_ge n m with h | h
      · have : x < y := by
          have a := @lt_wl y n
          have b := @wl_le x n
          have := HN.out
          have := HM.out
          omega
        rw [cmpI_lt (by omega)]; omega
      · have : y < x := by
          have a := @lt_wl x m
          have b := @wl_le y m
          have := HN.out
          have := HM.out
          omega
        rw [cmpI_gt (by omega)]; omega
    have HR := Lib.hid hres
    clear hres hnm
    go_enter Try.func76, Try.ntmps76
    go_wp2_with (go_at_call 82; refine (sign_any _ _ (by omega) (by omega)).mono ?_; rintro e w' ⟨rfl, rfl⟩)
    go_ret
    exact ⟨by rw [HR.out]; rfl, Below.refl _ _⟩
/-- nats.Cmp, both below 2^64 -/
theorem cmp_small (x y : Nat) (w : World) (hx : x < 18446744073709551616) (hy : y < 18446744073709551616) :
    Calls Try.prog 68 #[(Value.agg #[.int .u64 ((lo (x) : Nat) : Int), .string (bg (x))]), (Value.agg #[.int .u64 ((lo (y) : Nat) : Int), .string (bg (y))])] w (CmpPost x y w) := by
  rw [lo_small hx, bg_small hx, lo_small hy, bg_small hy]
  rcases Nat.lt_trichotomy x y with h | h | h
  · have HR := Lib.hid (show cmpI x y = -1 from cmpI_lt (by omega))
    go_enter Try.func68, Try.ntmps68
    go_wp2
    go_ret
    exact ⟨by rw [HR.out]; rfl, ((Below.refl _ _).alloc (Nat.le_refl _) _).alloc (by simp) _⟩
  · have HR := Lib.hid (show cmpI x y = 0 from cmpI_eq (by omega))
    subst h
    go_enter Try.func68, Try.ntmps68
    go_wp2
    go_ret
    exact ⟨by rw [HR.out]; rfl, ((Below.refl _ _).alloc (Nat.le_refl _) _).alloc (by simp) _⟩
  · have HR := Lib.hid (show cmpI x y = 1 from cmpI_gt (by omega))
    go_enter Try.func68, Try.ntmps68
    go_wp2
    go_ret
    exact ⟨by rw [HR.out]; rfl, ((Below.refl _ _).alloc (Nat.le_refl _) _).alloc (by simp) _⟩

/-- nats.Cmp, one of them at least 2^64 -/
theorem cmp_big (x y : Nat) (w : World) (hx : wl x ≤ 1099511627776) (hy : wl y ≤ 1099511627776) (h : ¬ (x < 18446744073709551616 ∧ y < 18446744073709551616)) :
    Calls Try.prog 68 #[(Value.agg #[.int .u64 ((lo (x) : Nat) : Int), .string (bg (x))]), (Value.agg #[.int .u64 ((lo (y) : Nat) : Int), .string (bg (y))])] w (CmpPost x y w) := by
  obtain ⟨px, hpx⟩ : ∃ p, (bg x).toList.isEmpty = p := ⟨_, rfl⟩
  obtain ⟨py, hpy⟩ : ∃ p, (bg y).toList.isEmpty = p := ⟨_, rfl⟩
  have hp : (px && py) = false := by
    rw [← hpx, ← hpy]
    by_cases h1 : x < 18446744073709551616
    · by_cases h2 : y < 18446744073709551616
      · exact absurd ⟨h1, h2⟩ h
      · have := toList_bg_ne h2
        simp [this]
    · have := toList_bg_ne h1
      simp [this]
  obtain ⟨W0, HW⟩ : ∃ W0, Hid ((w.alloc (.cells #[.int .u64 ((lo x : Nat) : Int), .string (bg x)] 30)).alloc (.cells #[.int .u64 ((lo y : Nat) : Int), .string (bg y)] 30) = W0) := ⟨_, Lib.hid rfl⟩
  have hsz : w.heap.size + 2 = W0.heap.size := by rw [← HW.out]; simp
  have HS := Lib.hid hsz
  have hza : w.heap.size < W0.heap.size := by omega
  have hzb : w.heap.size + 1 < W0.heap.size := by omega
  have hka : W0.cell? ⟨w.heap.size, 0, none⟩ = some (.int .u64 ((lo x : Nat) : Int)) := by rw [← HW.out]; simp [go_sem]
  have hkb : W0.cell? ⟨w.heap.size, 1, none⟩ = some (.string (bg x)) := by rw [← HW.out]; simp [go_sem]
  have hkc : W0.cell? ⟨w.heap.size + 1, 0, none⟩ = some (.int .u64 ((lo y : Nat) : Int)) := by rw [← HW.out]; simp [go_sem]
  have hkd : W0.cell? ⟨w.heap.size + 1, 1, none⟩ = some (.string (bg y)) := by rw [← HW.out]; simp [go_sem]
  have hlaw := held W0
  clear hsz
  cases px
  all_goals
    go_enter Try.func68, Try.ntmps68
    go_wp2_with fail
    rw [HW.out]
    go_region_held3 (fun w' => Below W0.heap.size W0 w') (first | exact (Below.refl _ _).drew | assumption | exact grow (by assumption) (by assumption))
      (first
        | (go_at_call_of 61 (Value.agg #[.int .u64 ((lo (x) : Nat) : Int), .string (bg (x))]); refine (words_any x _ hx).mono ?_; rintro e w1 ⟨b1, c1, rfl, hb1, hc1, hd1, hws1, hbl1⟩)
        | (go_at_call_of 61 (Value.agg #[.int .u64 ((lo (y) : Nat) : Int), .string (bg (y))]); refine (words_any y _ hy).mono ?_; rintro e w2 ⟨b2, c2, rfl, hb2, hc2, hd2, hws2, hbl2⟩)
        | (go_at_call 76; refine (cmp_words x y b1 c1 b2 c2 _ hx hy (fun i hi => (hbl2.cell (p := ⟨b1, i, none⟩) hws1.lt).trans (hws1.cell (Nat.lt_of_lt_of_le hi hc1))) (fun i hi => hws2.cell (Nat.lt_of_lt_of_le hi hc2))).mono ?_; rintro e w3 ⟨rfl, hbl3⟩))
    go_wp2
    go_ret
    refine ⟨rfl, ?_⟩
    have h0 : Below w.heap.size w W0 := by rw [← HW.out]; exact ((Below.refl _ _).alloc (Nat.le_refl _) _).alloc (by simp) _
    exact grow h0 (by assumption)

/-- nats.Cmp -/
theorem cmp_any (x y : Nat) (w : World) (hx : wl x ≤ 1099511627776) (hy : wl y ≤ 1099511627776) :
    Calls Try.prog 68 #[(Value.agg #[.int .u64 ((lo (x) : Nat) : Int), .string (bg (x))]), (Value.agg #[.int .u64 ((lo (y) : Nat) : Int), .string (bg (y))])] w (CmpPost x y w) := by
  by_cases h : x < 18446744073709551616 ∧ y < 18446744073709551616
  · exact cmp_small x y w h.1 h.2
  · exact cmp_big x y w hx hy h
end Go.Proofs.Ytenpbnmmadbkdaa
