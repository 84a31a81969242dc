
/- The contracts of nats and ints, each result under a name of the caller's. -/
import Derived.Test.YtobojnodohjiaaaGreatDoorPO
import Derived.Test.YtobojnodohjiaaaGreatDoorPC
import Derived.Test.YtobojnodohjiaaaGreatDoorPI
namespace Go.Proofs.YtobojnodohjiaaaGreatDoor
open Go.RowKit
theorem qY0 (n:Int):(sgI n<0)=(n<0):=by
 unfold sgI
 by_cases h:n=0
 ·simp [h]
 by_cases h2:n<0 <;> simp [h,h2]
theorem zgcd (a b z:Nat) (w:World) (hz:Nat.gcd a b=z) (ha:wl a≤549755813888) (hb:wl b≤549755813888) :
  Calls Tryz.prog 111 #[(Value.agg #[.int .u64 (lo a),.string (bg a)]),(Value.agg #[.int .u64 (lo b),.string (bg b)])] w fun e w'=>e=.returned (Value.agg #[.int .u64 (lo z),.string (bg z)])∧Below w.heap.size w w':=hz ▸ qT2 a b w ha hb
theorem zdiv (a b q r:Nat) (w:World) (hq:a / b=q) (hr:a % b=r) (h0:0<b) (ha:wl a≤549755813888) (hb:wl b≤549755813888) :
  Calls Tryz.prog 43 #[(Value.agg #[.int .u64 (lo a),.string (bg a)]),(Value.agg #[.int .u64 (lo b),.string (bg b)])] w fun e w'=>e=.returned (.tuple #[(Value.agg #[.int .u64 (lo q),.string (bg q)]),(Value.agg #[.int .u64 (lo r),.string (bg r)]),.bool true])∧Below w.heap.size w w':=by
 subst hq hr
 refine (qC8 a b w ha hb).mono ?_
 rintro e w' ⟨h1,h2⟩
 rw [if_neg (by omega)] at h1
 exact ⟨h1,h2⟩
theorem zsub (a b z:Nat) (w:World) (hz:a - b=z) (h0:b≤a) (ha:wl a≤1099511627776) (hb:wl b≤1099511627776) :
  Calls Tryz.prog 165 #[(Value.agg #[.int .u64 (lo a),.string (bg a)]),(Value.agg #[.int .u64 (lo b),.string (bg b)])] w fun e w'=>e=.returned (.tuple #[(Value.agg #[.int .u64 (lo z),.string (bg z)]),.bool true])∧Below w.heap.size w w':=by
 have h:=qy2 a b w ha hb
 rw [hz,decide_eq_true h0] at h
 exact h
theorem zadd (a b z:Nat) (w:World) (hz:a+b=z) (ha:wl a≤549755813888) (hb:wl b≤549755813888) :
  Calls Tryz.prog 109 #[(Value.agg #[.int .u64 (lo a),.string (bg a)]),(Value.agg #[.int .u64 (lo b),.string (bg b)])] w fun e w'=>e=.returned (Value.agg #[.int .u64 (lo z),.string (bg z)])∧Below w.heap.size w w':=hz ▸ qC1 a b w ha hb
theorem zmul (a b z:Nat) (w:World) (hz:a*b=z) (ha:wl a≤549755813888) (hb:wl b≤549755813888) :
  Calls Tryz.prog 110 #[(Value.agg #[.int .u64 (lo a),.string (bg a)]),(Value.agg #[.int .u64 (lo b),.string (bg b)])] w fun e w'=>e=.returned (Value.agg #[.int .u64 (lo z),.string (bg z)])∧Below w.heap.size w w':=hz ▸ qp5 a b w ha hb
theorem zof (n:Nat) (w:World) (h:n<18446744073709551616) :
  Calls Tryz.prog 24 #[.int .u64 ((n:Nat):Int)] w fun e w'=>e=.returned (Value.agg #[.int .u64 (lo n),.string (bg n)])∧Below w.heap.size w w':=qx4 n w (by omega) (by omega)
theorem qm1 (a b:Int):wl (Int.natAbs (a+b))≤max (wl a.natAbs) (wl b.natAbs)+1:=Nat.le_trans (qb6 (Int.natAbs_add_le a b)) (wl_add _ _)
theorem qh7 (a b:Int):wl (Int.natAbs (a*b))≤wl a.natAbs+wl b.natAbs:=by rw [Int.natAbs_mul];exact qi5 _ _
theorem qP5 (a b z:Int) (w:World) (hz:a+b=z) (ha:wl a.natAbs≤274877906944) (hb:wl b.natAbs≤274877906944) :
  Calls Tryz.prog 41 #[(Value.agg #[.int .u64 (lo a.natAbs),.string (bg a.natAbs),.bool (a<0)]),(Value.agg #[.int .u64 (lo b.natAbs),.string (bg b.natAbs),.bool (b<0)])] w fun e w'=>e=.returned (Value.agg #[.int .u64 (lo z.natAbs),.string (bg z.natAbs),.bool (z<0)])∧Below w.heap.size w w':=hz ▸ xe4 a b w ha hb
theorem qv0 (a b z:Int) (w:World) (hz:a*b=z) (ha:wl a.natAbs≤274877906944) (hb:wl b.natAbs≤274877906944) :
  Calls Tryz.prog 39 #[(Value.agg #[.int .u64 (lo a.natAbs),.string (bg a.natAbs),.bool (a<0)]),(Value.agg #[.int .u64 (lo b.natAbs),.string (bg b.natAbs),.bool (b<0)])] w fun e w'=>e=.returned (Value.agg #[.int .u64 (lo z.natAbs),.string (bg z.natAbs),.bool (z<0)])∧Below w.heap.size w w':=hz ▸ xe7 a b w ha hb
theorem xB1 (a b t:Int) (w:World) (ht:sgI (a - b)=t) (ha:wl a.natAbs≤274877906944) (hb:wl b.natAbs≤274877906944) :
  Calls Tryz.prog 217 #[(Value.agg #[.int .u64 (lo a.natAbs),.string (bg a.natAbs),.bool (a<0)]),(Value.agg #[.int .u64 (lo b.natAbs),.string (bg b.natAbs),.bool (b<0)])] w fun e w'=>e=.returned (.int .i64 t)∧Below w.heap.size w w':=ht ▸ xe5 a b w ha hb
theorem xB2 (a z:Int) (w:World) (hz:-a=z) :
  Calls Tryz.prog 44 #[(Value.agg #[.int .u64 (lo a.natAbs),.string (bg a.natAbs),.bool (a<0)])] w fun e w'=>e=.returned (Value.agg #[.int .u64 (lo z.natAbs),.string (bg z.natAbs),.bool (z<0)])∧Below w.heap.size w w':=hz ▸ qV4 a w
theorem xa_ (a t:Int) (w:World) (ht:sgI a=t) :
  Calls Tryz.prog 101 #[(Value.agg #[.int .u64 (lo a.natAbs),.string (bg a.natAbs),.bool (a<0)])] w fun e w'=>e=.returned (.int .i64 t)∧Below w.heap.size w w':=ht ▸ qy1 a w
end Go.Proofs.YtobojnodohjiaaaGreatDoor
