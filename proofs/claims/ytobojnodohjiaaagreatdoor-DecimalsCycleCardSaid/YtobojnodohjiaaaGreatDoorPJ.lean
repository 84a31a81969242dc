/- A pack of texts: NatZ, LawN, LawN2, LawW. No condition but those stated. -/
import Derived.Test.YtobojnodohjiaaaGreatDoorPC
import Derived.Test.YtobojnodohjiaaaGreatDoorPR
import Derived.Test.YtobojnodohjiaaaGreatDoorPE
import Derived.Test.YtobojnodohjiaaaGreatDoorPP
import Derived.Test.YtobojnodohjiaaaGreatDoorRefK
import Derived.Test.YtobojnodohjiaaaGreatDoorPH
import Derived.Test.YtobojnodohjiaaaGreatDoorRefL
import Derived.Test.YtobojnodohjiaaaGreatDoorPI
set_option linter.unusedVariables false
set_option linter.unusedSimpArgs false

/- The contracts of package nats with the result under a name of the caller's. No condition but a bound on lengths. -/
namespace Go.Proofs.YtobojnodohjiaaaGreatDoor
open Go.RowKit
set_option linter.unusedSimpArgs false
set_option linter.unusedVariables false

theorem nzof (n : Nat) (w : World) (h : n < 18446744073709551616) :
    Calls Tryz.prog 24 #[.int .u64 ((n : Nat) : Int)] w fun e w' => e = .returned (Value.agg #[.int .u64 ((lo (n) : Nat) : Int), .string (bg (n))]) ∧ Below w.heap.size w w' := by
  have := of_small ((n : Nat) : Int) w (by omega) (by omega)
  rwa [Int.toNat_natCast] at this
theorem nzadd (a b z : Nat) (w : World) (hz : a + b = z) (ha : wl a ≤ 549755813888) (hb : wl b ≤ 549755813888) :
    Calls Tryz.prog 109 #[(Value.agg #[.int .u64 ((lo (a) : Nat) : Int), .string (bg (a))]), (Value.agg #[.int .u64 ((lo (b) : Nat) : Int), .string (bg (b))])] w fun e w' => e = .returned (Value.agg #[.int .u64 ((lo (z) : Nat) : Int), .string (bg (z))]) ∧ Below w.heap.size w w' := hz ▸ add_any a b w ha hb
theorem nzmul (a b z : Nat) (w : World) (hz : a * b = z) (ha : wl a ≤ 549755813888) (hb : wl b ≤ 549755813888) :
    Calls Tryz.prog 110 #[(Value.agg #[.int .u64 ((lo (a) : Nat) : Int), .string (bg (a))]), (Value.agg #[.int .u64 ((lo (b) : Nat) : Int), .string (bg (b))])] w fun e w' => e = .returned (Value.agg #[.int .u64 ((lo (z) : Nat) : Int), .string (bg (z))]) ∧ Below w.heap.size w w' := hz ▸ mul_any a b w ha hb
theorem nzsub (a b z : Nat) (w : World) (hz : a - b = z) (h0 : b ≤ a) (ha : wl a ≤ 549755813888) (hb : wl b ≤ 549755813888) :
    Calls Tryz.prog 165 #[(Value.agg #[.int .u64 ((lo (a) : Nat) : Int), .string (bg (a))]), (Value.agg #[.int .u64 ((lo (b) : Nat) : Int), .string (bg (b))])] w fun e w' => e = .returned (.tuple #[(Value.agg #[.int .u64 ((lo (z) : Nat) : Int), .string (bg (z))]), .bool true]) ∧ Below w.heap.size w w' := by
  have := sub_any a b w (by omega) (by omega)
  rw [decide_eq_true h0, hz] at this
  exact this
theorem nzdiv (a b q r : Nat) (w : World) (hq : a / b = q) (hr : a % b = r) (h0 : 0 < b) (ha : wl a ≤ 549755813888) (hb : wl b ≤ 549755813888) :
    Calls Tryz.prog 43 #[(Value.agg #[.int .u64 ((lo (a) : Nat) : Int), .string (bg (a))]), (Value.agg #[.int .u64 ((lo (b) : Nat) : Int), .string (bg (b))])] w fun e w' => e = .returned (.tuple #[(Value.agg #[.int .u64 ((lo (q) : Nat) : Int), .string (bg (q))]), (Value.agg #[.int .u64 ((lo (r) : Nat) : Int), .string (bg (r))]), .bool true]) ∧ Below w.heap.size w w' := by
  refine (div_any a b w ha hb).mono fun e w' h => ?_
  unfold DivPost at h
  rw [if_neg (by omega), hq, hr] at h
  exact h
theorem nzpow (a n z : Nat) (w : World) (hz : a ^ n = z) (hn : n ≤ 4096) (hb : n * nb a ≤ 262144) (ha : wl a ≤ 8192) :
    Calls Tryz.prog 164 #[(Value.agg #[.int .u64 ((lo (a) : Nat) : Int), .string (bg (a))]), .int .i64 ((n : Nat) : Int)] w fun e w' => e = .returned (.tuple #[(Value.agg #[.int .u64 ((lo (z) : Nat) : Int), .string (bg (z))]), .int .i64 0]) ∧ Below w.heap.size w w' := hz ▸ pow_ok a n w hn hb ha
theorem nzparse (s : ByteArray) (n : Nat) (c : Int) (w : World) (hn : pnum s = n) (hc : pcode s = c) (hs : s.size ≤ 9223372036854775807) :
    Calls Tryz.prog 163 #[.string s] w fun e w' => e = .returned (.tuple #[(Value.agg #[.int .u64 ((lo (n) : Nat) : Int), .string (bg (n))]), .int .i64 c]) ∧ Below w.heap.size w w' := hn ▸ hc ▸ parse_any s w hs
/-- the digits of a given number -/
def decF : Nat → Nat → List UInt8 → List UInt8
  | 0, _, acc => acc
  | k + 1, u, acc => if u < 10 then UInt8.ofNat (48 + u) :: acc else decF k (u / 10) (UInt8.ofNat (48 + u % 10) :: acc)
theorem decF_eq : ∀ (k u : Nat) (acc : List UInt8), u < 10 ^ (k + 1) → decF (k + 1) u acc = Lib.decDigits u ++ acc
  | 0, u, acc, h => by
    have h' : u < 10 := by simpa using h
    unfold decF
    rw [if_pos h', Lib.decDigits, dif_pos h']
    rfl
  | k + 1, u, acc, h => by
    unfold decF
    by_cases h' : u < 10
    · rw [if_pos h', Lib.decDigits, dif_pos h']; rfl
    · rw [if_neg h', decF_eq k (u / 10) _ (by rw [Nat.pow_succ] at h; omega), decDigits_big h', List.append_assoc]; rfl
theorem dec_lit {u : Nat} {s : List UInt8} (k : Nat) (h : u < 10 ^ (k + 1)) (e : decF (k + 1) u [] = s) : Lib.decDigits u = s := by
  rw [← e, decF_eq k u [] h, List.append_nil]
end Go.Proofs.YtobojnodohjiaaaGreatDoor


/- gussetlaw01: Made, same, number. No condition but a bound on lengths. -/
namespace Go.Proofs.YtobojnodohjiaaaGreatDoor
open Go.RowKit
set_option linter.unusedSimpArgs false
set_option linter.unusedVariables false

end Go.Proofs.YtobojnodohjiaaaGreatDoor


/- gussetlaw01: same, number; the reference in z-form. -/
namespace Go.Proofs.YtobojnodohjiaaaGreatDoor
open Go.RowKit
set_option linter.unusedSimpArgs false
set_option linter.unusedVariables false
attribute [local go_sem ↓] Go.wp_at_zero Go.wp_at_succ
theorem zrtext (v : Value) (x : Nat) (s : ByteArray) (w : World) (hs : (⟨(Lib.decDigits x).toArray⟩ : ByteArray) = s) (hx : Rn w v x) (bx : tw x ≤ 10000000) :
    Calls Tryz.prog 177 #[v] w fun e w' => e = .returned (.string s) ∧ Below w.heap.size w w' := hs ▸ rtext_any v x w hx bx
theorem nztexts (a : Nat) (s : ByteArray) (w : World) (hs : (⟨(Lib.decDigits a).toArray⟩ : ByteArray) = s) (ha : wl a ≤ 900000) (HT : Hid (Tab w)) :
    Calls Tryz.prog 154 #[(Value.agg #[.int .u64 ((lo (a) : Nat) : Int), .string (bg (a))])] w fun e w' => e = .returned (.string s) ∧ Below w.heap.size w w' := hs ▸ text_any a w (by omega) HT
theorem Rn.len {w : World} {ao : Option Addr} {n c k : Nat} (h : Rn w (.slice ao n c) k) : n = tw k := by
  obtain ⟨ao', c', e, _⟩ := Dr.slice h
  injection e with _ e2 _

end Go.Proofs.YtobojnodohjiaaaGreatDoor


/- gussetlaw01.works: the examples of the chapter. -/
namespace Go.Proofs.YtobojnodohjiaaaGreatDoor
open Go.RowKit
set_option linter.unusedSimpArgs false
set_option linter.unusedVariables false
attribute [local go_sem ↓] Go.wp_at_zero Go.wp_at_succ
attribute [local go_sem ↓] eq_nat eq_nat_zero
end Go.Proofs.YtobojnodohjiaaaGreatDoor
