/- Nat.words, nats.of: between a number's fields and its words. -/
import Derived.Test.YtenpbnmmadbkdaaCut
import Derived.BigQuiet
import Derived.BigRegion
namespace Go.Proofs.Ytenpbnmmadbkdaa
open Go.RowKit

/-- the words of n in a new row -/
def WordsPost (n : Nat) (w : World) (e : Ending) (w' : World) : Prop :=
  ∃ b c : Nat, e = .returned (.slice (some ⟨b, 0, none⟩) (wl n) c) ∧ w.heap.size ≤ b ∧ wl n ≤ c ∧ c ≤ max 2 (wl n) ∧ Ws w' b c (dg n) ∧ Below w.heap.size w w'

theorem ws_two (W : World) (n : Nat) (h : n < 18446744073709551616) : Ws (W.alloc (.cells #[.int .u32 ((n : Int) % 4294967296), .int .u32 ((n : Int) / 4294967296)] 22)) W.heap.size 2 (dg n) := by
  refine World.rowIs_alloc W _ _ _ fun i hi => ?_
  match i, hi with
  | 0, _ => simp [dg, bp_zero]
  | 1, _ =>
    have : n / 4294967296 < 4294967296 := by omega
    simp [dg, bp_one, Nat.mod_eq_of_lt this]

theorem words_small (n : Nat) (w : World) (h : n < 18446744073709551616) :
    Calls Try.prog 61 #[(Value.agg #[.int .u64 ((lo (n) : Nat) : Int), .string (bg (n))])] w (WordsPost n w) := by
  have hvl : Hid (vl (dg n) 2 = n) := vl_dg_of_lt (by rw [bp_two]; exact h)
  have hw2 := small_wl h
  rw [lo_small h, bg_small h]
  go_enter Try.func61, Try.ntmps61
  go_wp2_with fail
  have hw := ws_two (w.alloc (.cells #[.int .u64 ↑n, .string ⟨#[]⟩] 30)) n h
  refine (cut_any _ _ (dg n) _ 2 (by omega) (by omega) (fun i hi => ?_)).mono ?_
  · have := hw.cell hi
    simpa using this
  · rintro e w1 ⟨rfl, rfl⟩
    rw [tl_wl (fun i _ => dg_lt n i), hvl.out]
    clear hw
    go_wp2
    go_ret
    refine ⟨_, 2, rfl, Nat.le_succ _, hw2, by omega, ?_, ?_⟩
    · have := ws_two (w.alloc (.cells #[.int .u64 ↑n, .string ⟨#[]⟩] 30)) n h
      simpa using this
    · exact ((Below.refl _ _).alloc (Nat.le_refl _) _).alloc (by simp) _

theorem or_step (x y t : Nat) (hx : x < 256 ^ t) (hy : y < 256) (ht : t < 4) :
    bits .or .u32 (x : Int) ((y : Int) % 4294967296 * 2 ^ (8 * t) % 4294967296) = ((x + y * 256 ^ t : Nat) : Int) := by
  have e : (256 : Nat) ^ t = 2 ^ (8 * t) := by rw [Nat.pow_mul]
  have hp : (256 : Nat) ^ t ≤ 16777216 := by
    have : (256 : Nat) ^ t ≤ 256 ^ 3 := Nat.pow_le_pow_right (by decide) (by omega)
    simpa using this
  have hy2 : y * 256 ^ t ≤ 255 * 16777216 := Nat.mul_le_mul (by omega) hp
  have h1 : (y : Int) % 4294967296 * 2 ^ (8 * t) % 4294967296 = ((y * 256 ^ t : Nat) : Int) := by
    have h2 : (y : Int) % 4294967296 = (y : Int) := by omega
    rw [h2, e]
    have h3 : ((2 : Int) ^ (8 * t)) = ((2 ^ (8 * t) : Nat) : Int) := by simp
    rw [h3, ← Int.natCast_mul, ← e]
    omega
  rw [h1, u32_or_nat x (y * 256 ^ t) (by omega) (by omega)]
  congr 1
  rw [e] at hx ⊢
  have := Nat.two_pow_add_eq_or_of_lt hx y
  rw [Nat.or_comm, Nat.mul_comm y, ← this, Nat.add_comm]

theorem next_byte (d t : Nat) : d % 256 ^ t + d / 256 ^ t % 256 * 256 ^ t = d % 256 ^ (t + 1) := by
  rw [Nat.pow_succ, Nat.mod_mul, Nat.mul_comm (256 ^ t)]


set_option maxRecDepth 100000 in
theorem words_big (n : Nat) (w : World) (h : ¬ n < 18446744073709551616) (hl : wl n ≤ 1099511627776) :
    Calls Try.prog 61 #[(Value.agg #[.int .u64 ((lo (n) : Nat) : Int), .string (bg (n))])] w (WordsPost n w) := by
  have hs : Hid ((bg n).size = 4 * wl n) := size_bg_big h
  have hne : (bg n).toList.isEmpty = false := by simpa using toList_bg_ne h
  rw [lo_big h, show ((0 : Nat) : Int) = 0 from rfl]
  obtain ⟨s, HS⟩ : ∃ s, Hid (bg n = s) := ⟨_, Lib.hid rfl⟩
  obtain ⟨k, HK⟩ : ∃ k, Hid (wl n = k) := ⟨_, Lib.hid rfl⟩
  rw [HS.out, HK.out] at hs
  rw [HS.out] at hne
  rw [HS.out]
  rw [HK.out] at hl
  have hsz : s.size ≤ 4398046511104 := by have := hs.out; omega
  have hq : (s.size : Int) / 4 = (k : Int) := by have := hs.out; omega
  have hmk := fun W => run_make_row' (P := Try.prog) 94 22 (.int .u32 0) 4 Try.underlying94 info_u32 rfl .i64 .i64 k (by omega) (by omega) W
  go_enter Try.func61, Try.ntmps61
  go_wp2_with fail
  go_loopw [25] (fun i wr => ∃ j : Nat, j ≤ k ∧ i = .int .i64 j ∧ Ws wr (w.heap.size + 1) k (fun m => if m < j then dg n m else 0) ∧ wr.cell? ⟨w.heap.size, 1, none⟩ = some (.string s) ∧ Below w.heap.size w wr) (fun i _ => k - (intOf i).toNat)
  case atStart =>
    refine ⟨0, Nat.zero_le _, rfl, ?_, ?_, ?_⟩
    · have := Ws.made (w.alloc (.cells #[.int .u64 0, .string s] 30)) k
      simpa using this
    · simp [go_sem]
    · exact ((Below.refl _ _).alloc (Nat.le_refl _) _).alloc (by simp) _
  case round =>
    obtain ⟨j, hj, rfl, hws, hc, hb⟩ := hrel
    by_cases hjk : j < k
    · have H1 := Lib.hid hws
      have H2 := Lib.hid hb
      clear hws hb
      have hd4 : decide ((0 : Int) < 4) = true := rfl
      go_wp2_with fail
      obtain ⟨wo, rfl⟩ : ∃ wo : World, wo = wr := ⟨_, rfl⟩
      have HC := Lib.hid hc
      clear hc
      go_loopw [28] (fun i wr => ∃ t : Nat, t ≤ 4 ∧ i = .int .i64 t ∧ Ws wr (w.heap.size + 1) k (fun m => if m = j then dg n j % 256 ^ t else if m < j then dg n m else 0) ∧ wr.cell? ⟨w.heap.size, 1, none⟩ = some (.string s) ∧ Below w.heap.size w wr) (fun i _ => 4 - (intOf i).toNat)
      case atStart =>
        refine ⟨0, Nat.zero_le _, rfl, ?_, HC.out, H2.out⟩
        refine H1.out.congr fun m hm => ?_
        by_cases e : m = j
        · simp [e, Nat.mod_one]
        · simp [e]
      case round =>
        obtain ⟨t, ht, rfl, hws, hc, hb⟩ := hrel
        by_cases ht4 : t < 4
        · have hlt : 4 * j + t < s.size := by have := hs.out; omega
          have hi0 : (0 : Int) ≤ 4 * (j : Int) + (t : Int) := by omega
          have hi1 : 4 * (j : Int) + (t : Int) < (s.size : Int) := by omega
          have hi2 : (4 * (j : Int) + (t : Int)).toNat = 4 * j + t := by omega
          have hcell := hws.cell hjk
          have hfr := hws.frozen j
          simp only [if_true] at hcell
          obtain ⟨x, HX⟩ : ∃ x, Hid (dg n j % 256 ^ t = x) := ⟨_, Lib.hid rfl⟩
          rw [HX.out] at hcell
          have hx1 : Hid (x < 256 ^ t) := by rw [← HX.out]; exact Nat.mod_lt _ (Nat.pow_pos (by decide))
          obtain ⟨y, hy⟩ : ∃ y, (s[4 * j + t]'hlt).toNat = y := ⟨_, rfl⟩
          have HY : Hid (y = dg n j / 256 ^ t % 256) := by
            rw [← hy]
            have := bg_at (j := t) h (show j < wl n by rw [HK.out]; exact hjk) ht4 (by rw [HS.out]; exact hlt)
            rw [← this]
            congr 2
            exact HS.out.symm
          have hor : Hid (bits .or .u32 (x : Int) ((y : Int) % 4294967296 * 2 ^ (8 * t) % 4294967296) = ((x + y * 256 ^ t : Nat) : Int)) :=
            or_step x y t hx1.out (by rw [HY.out]; exact Nat.mod_lt _ (by decide)) ht4
          have hxy := Lib.hid (show x + y * 256 ^ t = dg n j % 256 ^ (t + 1) from by rw [HY.out, ← HX.out, next_byte])
          obtain ⟨z, HZ⟩ : ∃ z, Hid (x + y * 256 ^ t = z) := ⟨_, Lib.hid rfl⟩
          rw [HZ.out] at hor hxy
          have hor := hor.out
          have hx : x < 4294967296 := by rw [← HX.out]; exact Nat.lt_of_le_of_lt (Nat.mod_le _ _) (dg_lt _ _)
          have H3 := Lib.hid hws
          have H4 := Lib.hid hb
          clear hws hb
          go_wp2_with fail
          go_region
          go_wp2
          go_roundw
          case rel =>
            refine ⟨t + 1, by omega, by go_num, ?_, ?_, ?_⟩
            · refine ((H3.out.set j z).drew).congr fun m hm => ?_
              by_cases e : m = j
              · simp [e, hxy.out]
              · simp [e]
            · simp [go_sem, hc]
            · exact (H4.out.setCell (by simp) _).drew
          case measure => simp [intOf]; omega
        · obtain rfl : t = 4 := by omega
          have H3 := Lib.hid hws
          have H4 := Lib.hid hb
          clear hws hb
          go_wp2
          go_roundw
          case rel =>
            refine ⟨j + 1, by omega, by go_num, ?_, hc, H4.out⟩
            refine H3.out.congr fun m hm => ?_
            by_cases e : m = j
            · have := dg_lt n j
              simp [e, Nat.mod_eq_of_lt this]
            · have e2 : (m < j) ↔ (m < j + 1) := by omega
              simp [e, e2]
          case measure => simp [intOf]; omega
    · obtain rfl : j = k := by omega
      have H1 := Lib.hid hws
      have H2 := Lib.hid hb
      clear hws hb
      go_wp2
      go_ret
      refine ⟨_, j, by rw [HK.out]; rfl, Nat.le_succ _, by rw [HK.out]; exact Nat.le_refl _, by rw [HK.out]; omega, H1.out.congr fun i hi => by rw [if_pos hi], H2.out⟩
end Go.Proofs.Ytenpbnmmadbkdaa
