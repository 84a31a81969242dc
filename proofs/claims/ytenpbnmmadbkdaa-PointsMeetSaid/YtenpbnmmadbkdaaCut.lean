/- nats.cut, nats.sign, nats.Of, nats.zero: what they return. -/
import Derived.Test.YtenpbnmmadbkdaaMem
namespace Go.Proofs.Ytenpbnmmadbkdaa
open Go.RowKit

/-- how many words are left when zero words at the top are cut -/
def tl (f : Nat → Nat) : Nat → Nat
  | 0 => 0
  | n + 1 => if f n = 0 then tl f n else n + 1
theorem tl_zero {f : Nat → Nat} {n : Nat} (h : f n = 0) : tl f (n + 1) = tl f n := by simp [tl, h]
theorem tl_keep {f : Nat → Nat} {n : Nat} (h : f n ≠ 0) : tl f (n + 1) = n + 1 := by simp [tl, h]
theorem tl_le (f : Nat → Nat) (n : Nat) : tl f n ≤ n := by
  induction n with
  | zero => exact Nat.le_refl _
  | succ n ih => unfold tl; split <;> omega
theorem tl_top {f : Nat → Nat} {n : Nat} (h : 0 < tl f n) : f (tl f n - 1) ≠ 0 := by
  induction n with
  | zero => simp [tl] at h
  | succ n ih =>
    unfold tl at h ⊢
    split
    · next e => rw [if_pos e] at h; exact ih h
    · next e => simpa using e
theorem vl_tl (f : Nat → Nat) (n : Nat) : vl f (tl f n) = vl f n := by
  induction n with
  | zero => rfl
  | succ n ih =>
    unfold tl
    split
    · next e => rw [ih, vl_succ, e]; simp
    · rfl
theorem tl_wl {f : Nat → Nat} {n : Nat} (hf : ∀ i, i < n → f i < 4294967296) : tl f n = wl (vl f n) := by
  rw [← vl_tl]
  have := tl_le f n
  exact (wl_vl (fun j hj => hf j (by omega)) tl_top).symm

set_option maxHeartbeats 400000 in
theorem cut_any (b c : Nat) (f : Nat → Nat) (w : World) (n : Nat) (hn : n ≤ c) (hc : c ≤ 9223372036854775807)
    (hcell : ∀ i, i < n → w.cell? ⟨b, i, none⟩ = some (.int .u32 ((f i : Nat) : Int))) :
    Calls Try.prog 72 #[.slice (some ⟨b, 0, none⟩) n c] w fun e w' => e = .returned (.slice (some ⟨b, 0, none⟩) (tl f n) c) ∧ w = w' := by
  go_enter Try.func72, Try.ntmps72
  go_wp2
  go_loop [0] (fun l => ∃ m : Nat, m ≤ n ∧ l = .slice (some ⟨b, 0, none⟩) m c ∧ Hid (tl f m = tl f n)) (fun l => lenOf l)
  case atStart => exact ⟨n, Nat.le_refl _, rfl, Lib.hid rfl⟩
  case round =>
    obtain ⟨m, hm, rfl, HT⟩ := hrel
    rcases m with _ | m
    · go_wp2
      go_ret
      exact ⟨by rw [← HT.out]; rfl, rfl⟩
    · have h1 := hcell m (by omega)
      clear hcell
      by_cases h0 : f m = 0
      · have h2 : (((f m : Nat) : Int) == 0) = true := by simp [h0]
        have H0 := Lib.hid h0
        clear h0
        go_wp2
        go_round
        case rel => exact ⟨m, by omega, rfl, Lib.hid (by rw [← HT.out, tl_zero H0.out])⟩
        case measure => simp [lenOf]
      · have h2 : (((f m : Nat) : Int) == 0) = false := by simpa using h0
        have H0 := Lib.hid h0
        clear h0
        go_wp2
        go_ret
        exact ⟨by rw [← HT.out, tl_keep H0.out]; rfl, rfl⟩

/-- nats.Of -/
theorem of_small (n : Int) (w : World) (h0 : 0 ≤ n) (h1 : n < 18446744073709551616) :
    Calls Try.prog 57 #[.int .u64 n] w fun e w' => e = .returned (Value.agg #[.int .u64 ((lo (n.toNat) : Nat) : Int), .string (bg (n.toNat))]) ∧ Below w.heap.size w w' := by
  obtain ⟨m, rfl⟩ := Int.eq_ofNat_of_zero_le h0
  have hm : m < 18446744073709551616 := by omega
  rw [Int.toNat_natCast, lo_small hm, bg_small hm]
  clear h0 h1
  go_enter Try.func57, Try.ntmps57
  go_wp2
  exact bodyPost_ret (v := .agg #[.int .u64 ((m : Nat) : Int), .string ⟨#[]⟩]) (by simp [results, Try.results57, go_sem]) rfl ⟨rfl, (Below.refl _ _).alloc (Nat.le_refl _) _⟩

/-- nats.sign -/
theorem sign_any (n : Int) (w : World) (h0 : -9223372036854775808 ≤ n) (h1 : n ≤ 9223372036854775807) :
    Calls Try.prog 82 #[.int .i64 n] w fun e w' => e = .returned (.int .i64 (max (-1) (min 1 n))) ∧ w = w' := by
  go_enter Try.func82, Try.ntmps82
  go_wp2
  all_goals go_ret
  all_goals exact ⟨congrArg (fun x : Int => Ending.returned (.int .i64 x)) (by omega), rfl⟩

/-- '==' on numbers -/
theorem eq_nat (d m n : Nat) (w : World) : (Op.equalIn (d + 2) 30 (Value.agg #[.int .u64 ((lo (m) : Nat) : Int), .string (bg (m))]) (Value.agg #[.int .u64 ((lo (n) : Nat) : Int), .string (bg (n))])).run Try.prog w = .ok (decide (m = n)) w := by
  rw [← fields_beq]
  simp [go_sem]
  by_cases h1 : ((lo m : Nat) : Int) = ((lo n : Nat) : Int) <;> by_cases h2 : (bg m).toList = (bg n).toList <;> simp [h1, h2]
theorem eq_nat_zero (d m : Nat) (w : World) : (Op.equalIn (d + 2) 30 (Value.agg #[.int .u64 ((lo (m) : Nat) : Int), .string (bg (m))]) (Value.agg #[.int .u64 0, .string ⟨#[]⟩])).run Try.prog w = .ok (decide (m = 0)) w := eq_nat d m 0 w

attribute [local go_sem ↓] eq_nat eq_nat_zero
/-- Nat.zero -/
theorem zero_any (n : Nat) (w : World) :
    Calls Try.prog 67 #[(Value.agg #[.int .u64 ((lo (n) : Nat) : Int), .string (bg (n))])] w fun e w' => e = .returned (.bool (decide (n = 0))) ∧ Below w.heap.size w w' := by
  go_enter Try.func67, Try.ntmps67
  go_wp2
  go_ret
  exact ⟨rfl, (Below.refl _ _).alloc (Nat.le_refl _) _⟩
end Go.Proofs.Ytenpbnmmadbkdaa
