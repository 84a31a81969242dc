/- math/bits: Add32, Sub32, Div32, LeadingZeros32, Len32, Mul64, Add64: what they return. -/
import Derived.Test.YtenpbnmmadbkdaaMem
import Derived.BigQuiet
import Derived.Lib.Mul64
import Derived.Lib.BitFns
import Derived.Lib.Walk
import Derived.Lib.Small
import Derived.Laws.Bits64b
import Derived.Laws.Externs
namespace Go.Proofs.Ytenpbnmmadbkdaa
open Go.RowKit

/-- math/bits.Add32 -/
theorem add32_any (a b c : Int) (w : World) (ha0 : 0 ≤ a) (ha : a < 4294967296) (hb0 : 0 ≤ b) (hb : b < 4294967296) (hc0 : 0 ≤ c) (hc : c ≤ 1) :
    Calls Try.prog 74 #[.int .u32 a, .int .u32 b, .int .u32 c] w fun e w' => e = .returned (.tuple #[.int .u32 ((a + b + c) % 4294967296), .int .u32 ((a + b + c) / 4294967296)]) ∧ w = w' := by
  go_enter Try.func74, Try.ntmps74
  go_wp2
  go_ret2
  have h1 : (a + b + c) / 4294967296 % 4294967296 = (a + b + c) / 4294967296 := by omega
  first
    | exact ⟨rfl, rfl⟩
    | (rw [h1]; exact ⟨rfl, rfl⟩)

theorem top_bit (t : Nat) (h : t < 4294967296) : t / 2147483648 = (t.testBit 31).toNat := by
  rw [Nat.testBit_eq_decide_div_mod_eq]
  have : (2:Nat)^31 = 2147483648 := by decide
  rw [this]
  by_cases e : t / 2147483648 % 2 = 1
  · rw [decide_eq_true e]; simp; omega
  · rw [decide_eq_false e]; simp; omega
def bor (a b c : Nat) : Nat := if a < b + c then 1 else 0
def sb (a b c : Nat) : Nat := (a + 4294967296 - b - c) % 4294967296
theorem tb (t : Nat) (h : t < 4294967296) : t.testBit 31 = decide (2147483648 ≤ t) := by
  rw [Nat.testBit_eq_decide_div_mod_eq]
  have : (2:Nat)^31 = 2147483648 := by decide
  rw [this]
  rw [decide_eq_decide]
  omega
theorem borrow_nat (a b c : Nat) (ha : a < 4294967296) (hb : b < 4294967296) (hc : c ≤ 1) :
    (((4294967295 ^^^ a) &&& b) ||| ((4294967295 ^^^ (a ^^^ b)) &&& sb a b c)) / 2147483648 = bor a b c := by
  have hd : sb a b c < 4294967296 := Nat.mod_lt _ (by decide)
  have p : (4294967296 : Nat) = 2 ^ 32 := by decide
  have h1 : 4294967295 ^^^ a < 4294967296 := by rw [p]; exact Nat.xor_lt_two_pow (by decide) (by omega)
  have h2 : a ^^^ b < 4294967296 := by rw [p]; exact Nat.xor_lt_two_pow (by omega) (by omega)
  have h3 : 4294967295 ^^^ (a ^^^ b) < 4294967296 := by rw [p]; exact Nat.xor_lt_two_pow (by decide) (by omega)
  have h4 : (4294967295 ^^^ a) &&& b < 4294967296 := Nat.lt_of_le_of_lt Nat.and_le_right hb
  have h5 : (4294967295 ^^^ (a ^^^ b)) &&& sb a b c < 4294967296 := Nat.lt_of_le_of_lt Nat.and_le_right hd
  have h6 : (((4294967295 ^^^ a) &&& b) ||| ((4294967295 ^^^ (a ^^^ b)) &&& sb a b c)) < 4294967296 := by rw [p]; exact Nat.or_lt_two_pow (by omega) (by omega)
  rw [top_bit _ h6]
  have hm : (4294967295 : Nat).testBit 31 = true := by decide
  simp only [Nat.testBit_or, Nat.testBit_and, Nat.testBit_xor, hm, tb a ha, tb b hb, tb _ hd]
  unfold bor
  have e : sb a b c = (a + 4294967296 - b - c) % 4294967296 := rfl
  by_cases x : 2147483648 ≤ a <;> by_cases y : 2147483648 ≤ b <;> by_cases z : 2147483648 ≤ sb a b c <;> simp [x, y, z] <;> omega

theorem borrow_int (a b c : Nat) (ha : a < 4294967296) (hb : b < 4294967296) (hc : c ≤ 1) :
    bits .or .u32 (bits .and .u32 (bits .xor .u32 IntKind.u32.max (a : Int)) (b : Int)) (bits .and .u32 (bits .xor .u32 IntKind.u32.max (bits .xor .u32 (a : Int) (b : Int))) (((a : Int) - (b : Int) - (c : Int)) % 4294967296)) / 2147483648 = ((bor a b c : Nat) : Int) := by
  have hd : sb a b c < 4294967296 := Nat.mod_lt _ (by decide)
  have p : (4294967296 : Nat) = 2 ^ 32 := by decide
  have h1 : 4294967295 ^^^ a < 4294967296 := by rw [p]; exact Nat.xor_lt_two_pow (by decide) (by omega)
  have h2 : a ^^^ b < 4294967296 := by rw [p]; exact Nat.xor_lt_two_pow (by omega) (by omega)
  have h3 : 4294967295 ^^^ (a ^^^ b) < 4294967296 := by rw [p]; exact Nat.xor_lt_two_pow (by decide) (by omega)
  have h4 : (4294967295 ^^^ a) &&& b < 4294967296 := Nat.lt_of_le_of_lt Nat.and_le_right hb
  have h5 : (4294967295 ^^^ (a ^^^ b)) &&& sb a b c < 4294967296 := Nat.lt_of_le_of_lt Nat.and_le_right hd
  have e : ((a : Int) - (b : Int) - (c : Int)) % 4294967296 = ((sb a b c : Nat) : Int) := by unfold sb; omega
  have m : IntKind.u32.max = ((4294967295 : Nat) : Int) := rfl
  rw [e, m, u32_xor_nat 4294967295 a (by decide) ha, u32_and_nat _ b h1 hb, u32_xor_nat a b ha hb, u32_xor_nat 4294967295 _ (by decide) h2, u32_and_nat _ _ h3 hd, u32_or_nat _ _ h4 h5]
  rw [← borrow_nat a b c ha hb hc]
  omega

/-- math/bits.Sub32 -/
theorem sub32_any (a b c : Nat) (w : World) (ha : a < 4294967296) (hb : b < 4294967296) (hc : c ≤ 1) :
    Calls Try.prog 71 #[.int .u32 a, .int .u32 b, .int .u32 c] w fun e w' => e = .returned (.tuple #[.int .u32 ((sb a b c : Nat) : Int), .int .u32 ((bor a b c : Nat) : Int)]) ∧ w = w' := by
  have HB := Lib.hid (borrow_int a b c ha hb hc)
  have e : ((a : Int) - (b : Int) - (c : Int)) % 4294967296 = ((sb a b c : Nat) : Int) := by unfold sb; omega
  have HE := Lib.hid e
  clear e
  go_enter Try.func71, Try.ntmps71
  go_wp2
  go_ret2
  refine ⟨?_, rfl⟩
  rw [← HB.out, ← HE.out]
  rfl

/-- math/bits.Div32 -/
theorem div32_any (h l y : Nat) (w : World) (hh : h < y) (hl : l < 4294967296) (hy : y < 4294967296) :
    Calls Try.prog 77 #[.int .u32 h, .int .u32 l, .int .u32 y] w fun e w' => e = .returned (.tuple #[.int .u32 (((h * 4294967296 + l) / y : Nat) : Int), .int .u32 (((h * 4294967296 + l) % y : Nat) : Int)]) ∧ ∃ n, w' = w.drewN n := by
  have h1 : (((y : Nat) : Int) != 0) = true := by rw [bne_iff_ne]; omega
  have h2 : decide (((y : Nat) : Int) ≤ ((h : Nat) : Int)) = false := decide_eq_false (by omega)
  have h3 : (((y : Nat) : Int) == 0) = false := beq_eq_false_iff_ne.2 (by omega)
  have hor : bits .or .u64 ((h : Int) * 4294967296) (l : Int) = ((h * 4294967296 + l : Nat) : Int) := by
    have e : (h : Int) * 4294967296 = ((h * 4294967296 : Nat) : Int) := by omega
    rw [e, u64_or_nat _ _ (by omega) (by omega)]
    congr 1
    have := Nat.two_pow_add_eq_or_of_lt (i := 32) (b := l) (by simpa using hl) h
    rw [Nat.mul_comm h]
    exact this.symm
  obtain ⟨t, HT⟩ : ∃ t, Hid (h * 4294967296 + l = t) := ⟨_, Lib.hid rfl⟩
  have ht : t < 18446744073709551616 := by rw [← HT.out]; omega
  have hq : t / y < 4294967296 := by
    rw [← HT.out]
    refine Nat.div_lt_of_lt_mul ?_
    have : (h + 1) * 4294967296 ≤ y * 4294967296 := Nat.mul_le_mul_right _ hh
    omega
  have hr : t % y < 4294967296 := Nat.lt_trans (Nat.mod_lt _ (by omega)) hy
  have hy1 : (1 : Int) ≤ (y : Int) := by omega
  rw [HT.out] at hor ⊢
  have hq1 : (t : Int) / (y : Int) % 4294967296 = ((t / y : Nat) : Int) := by
    rw [← Int.natCast_ediv]; generalize t / y = q at *; omega
  have hr1 : (t : Int) % (y : Int) % 4294967296 = ((t % y : Nat) : Int) := by
    rw [← Int.natCast_emod]; generalize t % y = q at *; omega
  have HQ := Lib.hid hq1
  have HR := Lib.hid hr1
  have H4 := Lib.hid hq
  have H5 := Lib.hid hr
  clear hq1 hr1 hq hr
  go_enter Try.func77, Try.ntmps77
  go_wp2_with fail
  go_quiet (fail)
  go_wp2
  go_ret2
  refine ⟨?_, nq, rfl⟩
  have e1 : IntKind.u64.wrap ((t : Int) / (y : Int)) % 4294967296 = ((t / y : Nat) : Int) := by
    rw [IntKind.wrap_u64, ← Int.natCast_ediv]
    have := H4.out
    generalize t / y = q at *
    omega
  rw [← HR.out, ← e1]
  rfl

set_option maxRecDepth 100000 in
/-- math/bits.Len32 -/
theorem len32_any (x : Int) (w : World) (h0 : 0 ≤ x) (h1 : x ≤ 4294967295) :
    Calls Try.prog 83 #[.int .u32 x] w fun e w' => e = .returned (.int .i64 (Lib.bitLen x.toNat)) ∧ w = w' := by
  have HP : ∀ y : Int, 0 ≤ y → y ≤ 255 → Lib.bitLen y.toNat ≤ 8 ∧ Lib.len8 y = (Lib.bitLen y.toNat : Int) := fun y a b => ⟨Lib.bitLen_le8' y a b, Lib.len8_of y a b⟩
  rcases (show x ≤ 255 ∨ (256 ≤ x ∧ x ≤ 65535) ∨ (65536 ≤ x ∧ x ≤ 16777215) ∨ 16777216 ≤ x from by omega) with h | ⟨h, h'⟩ | ⟨h, h'⟩ | h
  · obtain ⟨a, b⟩ := HP x h0 h
    obtain ⟨c, HC⟩ : ∃ c, Hid (Lib.bitLen x.toNat = c) := ⟨_, Lib.hid rfl⟩
    rw [HC.out] at a b ⊢
    clear HP
    go_enter Try.func83, Try.ntmps83
    go_wp2
    go_ret
    exact ⟨congrArg (fun z : Int => Ending.returned (.int .i64 z)) (by omega), rfl⟩
  · have e : Lib.bitLen x.toNat = 8 + Lib.bitLen (x / 256).toNat := by
      rw [Lib.bitLen_shift8 x.toNat (by omega) (by omega)]
      congr 2
      omega
    have k0 : 0 ≤ x / 256 := by omega
    have k1 : x / 256 ≤ 255 := by omega
    obtain ⟨a, b⟩ := HP (x / 256) k0 k1
    rw [e]
    obtain ⟨c, HC⟩ : ∃ c, Hid (Lib.bitLen (x / 256).toNat = c) := ⟨_, Lib.hid rfl⟩
    rw [HC.out] at a b ⊢
    clear HP e
    go_enter Try.func83, Try.ntmps83
    go_wp2
    go_ret
    exact ⟨congrArg (fun z : Int => Ending.returned (.int .i64 z)) (by omega), rfl⟩
  · have e : Lib.bitLen x.toNat = 16 + Lib.bitLen (x / 65536).toNat := by
      rw [Lib.bitLen_shift16 x.toNat (by omega) (by omega)]
      congr 2
      omega
    have k0 : 0 ≤ x / 65536 := by omega
    have k1 : x / 65536 ≤ 255 := by omega
    obtain ⟨a, b⟩ := HP (x / 65536) k0 k1
    rw [e]
    obtain ⟨c, HC⟩ : ∃ c, Hid (Lib.bitLen (x / 65536).toNat = c) := ⟨_, Lib.hid rfl⟩
    rw [HC.out] at a b ⊢
    clear HP e
    go_enter Try.func83, Try.ntmps83
    go_wp2
    go_ret
    exact ⟨congrArg (fun z : Int => Ending.returned (.int .i64 z)) (by omega), rfl⟩
  · have e : Lib.bitLen x.toNat = 24 + Lib.bitLen (x / 16777216).toNat := by
      rw [Lib.bitLen_shift24 x.toNat (by omega) (by omega)]
      congr 2
      omega
    have k0 : 0 ≤ x / 16777216 := by omega
    have k1 : x / 16777216 ≤ 255 := by omega
    obtain ⟨a, b⟩ := HP (x / 16777216) k0 k1
    have k2 : x / 65536 / 256 = x / 16777216 := by omega
    rw [e]
    obtain ⟨c, HC⟩ : ∃ c, Hid (Lib.bitLen (x / 16777216).toNat = c) := ⟨_, Lib.hid rfl⟩
    rw [HC.out] at a b ⊢
    clear HP e
    go_enter Try.func83, Try.ntmps83
    go_wp2
    go_ret
    exact ⟨congrArg (fun z : Int => Ending.returned (.int .i64 z)) (by omega), rfl⟩

/-- math/bits.LeadingZeros32 -/
theorem lz32_any (x : Int) (w : World) (h0 : 0 ≤ x) (h1 : x ≤ 4294967295) :
    Calls Try.prog 78 #[.int .u32 x] w fun e w' => e = .returned (.int .i64 (32 - (Lib.bitLen x.toNat : Int))) ∧ w = w' := by
  have hl : Lib.bitLen x.toNat ≤ 32 := Lib.bitLen_le _ 32 (by decide) (by omega)
  go_enter Try.func78, Try.ntmps78
  go_wp2_with (go_at_call 83; refine (len32_any x _ h0 h1).mono ?_; rintro e w' ⟨rfl, rfl⟩)
  go_ret
  exact ⟨rfl, rfl⟩

/-- math/bits.Add64, as the walk meets it -/
theorem add64_call (x y : Nat) (w : World) :
    (callFunc 73 #[.int .u64 (x : Int), .int .u64 (y : Int), .int .u64 0]).run Try.prog w =
      .ok (.value (.tuple #[.int .u64 (((x + y) % 18446744073709551616 : Nat) : Int), .int .u64 (((x + y) / 18446744073709551616 : Nat) : Int)])) w := by
  rw [run_callFunc_extern Try.func73 (by kernel_rfl) (by kernel_rfl) (by kernel_rfl) (e := add64Entry) (by kernel_rfl), run_add64 x y 0 (by omega) (by omega) (by omega) (by omega)]
  simp only [Result.andThen]
  congr 5 <;> omega

theorem maskN (a : Nat) (ha : a < 18446744073709551616) : bits .and .u64 (a : Int) 4294967295 = ((a % 4294967296 : Nat) : Int) := by
  have h := bits_and_u64_nat a 4294967295 ha (by omega)
  have e : a &&& 4294967295 = a % 4294967296 := Nat.and_two_pow_sub_one_eq_mod a 32
  rw [e] at h
  exact h
theorem divN (a : Nat) : (a : Int) / 4294967296 = ((a / 4294967296 : Nat) : Int) := by omega
theorem mulN (a b : Nat) : (a : Int) * (b : Int) = ((a * b : Nat) : Int) := (Int.natCast_mul a b).symm
theorem addN (a b : Nat) : (a : Int) + (b : Int) = ((a + b : Nat) : Int) := (Int.natCast_add a b).symm
theorem wrapN (a : Nat) (ha : a < 18446744073709551616) : IntKind.u64.wrap (a : Int) = (a : Int) := by rw [IntKind.wrap_u64]; omega
theorem wrapM (a : Nat) : IntKind.u64.wrap (a : Int) = ((a % 18446744073709551616 : Nat) : Int) := by rw [IntKind.wrap_u64]; omega

set_option maxHeartbeats 1000000 in
/-- math/bits.Mul64 -/
theorem mul64_any (x y : Nat) (hx : x < 18446744073709551616) (hy : y < 18446744073709551616) (w : World) :
    Calls Try.prog 59 #[.int .u64 x, .int .u64 y] w fun e w' => e = .returned (.tuple #[.int .u64 ((x * y / 18446744073709551616 : Nat) : Int), .int .u64 ((x * y % 18446744073709551616 : Nat) : Int)]) ∧ w = w' := by
  obtain ⟨bd, bt, bw, hhi⟩ := Lib.mul64_hi x y hx hy
  have ba := Lib.half_mul_le (a := x / 4294967296) (b := y / 4294967296) (by omega) (by omega)
  have bb := Lib.half_mul_le (a := x / 4294967296) (b := y % 4294967296) (by omega) (by omega)
  have bc := Lib.half_mul_le (a := x % 4294967296) (b := y / 4294967296) (by omega) (by omega)
  have ba' : x / 4294967296 * (y / 4294967296) < 18446744073709551616 := by omega
  have bb' : x / 4294967296 * (y % 4294967296) < 18446744073709551616 := by omega
  have bc' : x % 4294967296 * (y / 4294967296) < 18446744073709551616 := by omega
  have bh1 : x / 4294967296 * (y / 4294967296) + (x / 4294967296 * (y % 4294967296) + x % 4294967296 * (y % 4294967296) / 4294967296) / 4294967296 < 18446744073709551616 := by omega
  have bh : x / 4294967296 * (y / 4294967296) + (x / 4294967296 * (y % 4294967296) + x % 4294967296 * (y % 4294967296) / 4294967296) / 4294967296 + ((x / 4294967296 * (y % 4294967296) + x % 4294967296 * (y % 4294967296) / 4294967296) % 4294967296 + x % 4294967296 * (y / 4294967296)) / 4294967296 < 18446744073709551616 := by omega
  go_enter Try.func59, Try.ntmps59
  go_wp2
  simp only [maskN x hx, maskN y hy, divN, mulN, addN, wrapN _ bd, wrapN _ bb', wrapN _ bt, maskN _ bt, wrapN _ bc', wrapN _ bw, wrapN _ ba', wrapN _ bh1, wrapN _ bh, wrapM (x * y)]
  rw [hhi]
  go_ret2
  exact ⟨rfl, rfl⟩
end Go.Proofs.Ytenpbnmmadbkdaa
