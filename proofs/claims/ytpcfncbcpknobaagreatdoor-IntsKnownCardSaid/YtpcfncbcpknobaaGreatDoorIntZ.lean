
/- The contracts of nats and ints, each result under a name of the caller's. -/
import Derived.Test.YtpcfncbcpknobaaGreatDoorPO
import Derived.Test.YtpcfncbcpknobaaGreatDoorPC
import Derived.Test.YtpcfncbcpknobaaGreatDoorPI
namespace Go.Proofs.YtpcfncbcpknobaaGreatDoor
open Go.RowKit
theorem sgI_neg (n : Int) : (sgI n < 0) = (n < 0) := by
  unfold sgI
  by_cases h : n = 0
  · simp [h]
  · by_cases h2 : n < 0 <;> simp [h, h2]
theorem zof (n : Nat) (w : World) (h : n < 18446744073709551616) :
    Calls Tryz.prog 57 #[.int .u64 ((n : Nat) : Int)] w fun e w' => e = .returned (Value.agg #[.int .u64 ((lo (n) : Nat) : Int), .string (bg (n))]) ∧ Below w.heap.size w w' := of_small n w (by omega) (by omega)
theorem wl_iadd (a b : Int) : wl (Int.natAbs (a + b)) ≤ max (wl a.natAbs) (wl b.natAbs) + 1 := Nat.le_trans (wl_mono (Int.natAbs_add_le a b)) (wl_add _ _)
theorem wl_imul (a b : Int) : wl (Int.natAbs (a * b)) ≤ wl a.natAbs + wl b.natAbs := by rw [Int.natAbs_mul]; exact wl_mul _ _
theorem ziadd (a b z : Int) (w : World) (hz : a + b = z) (ha : wl a.natAbs ≤ 274877906944) (hb : wl b.natAbs ≤ 274877906944) :
    Calls Tryz.prog 102 #[(Value.agg #[.int .u64 ((lo (Int.natAbs (a)) : Nat) : Int), .string (bg (Int.natAbs (a))), .bool (decide ((a) < 0))]), (Value.agg #[.int .u64 ((lo (Int.natAbs (b)) : Nat) : Int), .string (bg (Int.natAbs (b))), .bool (decide ((b) < 0))])] w fun e w' => e = .returned (Value.agg #[.int .u64 ((lo (Int.natAbs (z)) : Nat) : Int), .string (bg (Int.natAbs (z))), .bool (decide ((z) < 0))]) ∧ Below w.heap.size w w' := hz ▸ iadd_any a b w ha hb
theorem zimul (a b z : Int) (w : World) (hz : a * b = z) (ha : wl a.natAbs ≤ 274877906944) (hb : wl b.natAbs ≤ 274877906944) :
    Calls Tryz.prog 94 #[(Value.agg #[.int .u64 ((lo (Int.natAbs (a)) : Nat) : Int), .string (bg (Int.natAbs (a))), .bool (decide ((a) < 0))]), (Value.agg #[.int .u64 ((lo (Int.natAbs (b)) : Nat) : Int), .string (bg (Int.natAbs (b))), .bool (decide ((b) < 0))])] w fun e w' => e = .returned (Value.agg #[.int .u64 ((lo (Int.natAbs (z)) : Nat) : Int), .string (bg (Int.natAbs (z))), .bool (decide ((z) < 0))]) ∧ Below w.heap.size w w' := hz ▸ imul_any a b w ha hb
theorem zicmp (a b t : Int) (w : World) (ht : sgI (a - b) = t) (ha : wl a.natAbs ≤ 274877906944) (hb : wl b.natAbs ≤ 274877906944) :
    Calls Tryz.prog 101 #[(Value.agg #[.int .u64 ((lo (Int.natAbs (a)) : Nat) : Int), .string (bg (Int.natAbs (a))), .bool (decide ((a) < 0))]), (Value.agg #[.int .u64 ((lo (Int.natAbs (b)) : Nat) : Int), .string (bg (Int.natAbs (b))), .bool (decide ((b) < 0))])] w fun e w' => e = .returned (.int .i64 t) ∧ Below w.heap.size w w' := ht ▸ icmp_any a b w ha hb
theorem zineg (a z : Int) (w : World) (hz : -a = z) :
    Calls Tryz.prog 112 #[(Value.agg #[.int .u64 ((lo (Int.natAbs (a)) : Nat) : Int), .string (bg (Int.natAbs (a))), .bool (decide ((a) < 0))])] w fun e w' => e = .returned (Value.agg #[.int .u64 ((lo (Int.natAbs (z)) : Nat) : Int), .string (bg (Int.natAbs (z))), .bool (decide ((z) < 0))]) ∧ Below w.heap.size w w' := hz ▸ neg_any a w
theorem zisign (a t : Int) (w : World) (ht : sgI a = t) :
    Calls Tryz.prog 114 #[(Value.agg #[.int .u64 ((lo (Int.natAbs (a)) : Nat) : Int), .string (bg (Int.natAbs (a))), .bool (decide ((a) < 0))])] w fun e w' => e = .returned (.int .i64 t) ∧ Below w.heap.size w w' := ht ▸ sign_int a w
end Go.Proofs.YtpcfncbcpknobaaGreatDoor
