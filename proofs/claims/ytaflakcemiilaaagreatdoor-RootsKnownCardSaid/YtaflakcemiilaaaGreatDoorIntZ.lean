
/- The contracts of nats and ints, each result under a name of the caller's. -/
import Derived.Test.YtaflakcemiilaaaGreatDoorPO
import Derived.Test.YtaflakcemiilaaaGreatDoorPC
import Derived.Test.YtaflakcemiilaaaGreatDoorPJ
namespace Go.Proofs.YtaflakcemiilaaaGreatDoor
open Go.RowKit
theorem xr0 (n:Int):(sgI n<0)=(n<0):=by
 unfold sgI
 by_cases h:n=0
 ·simp [h]
 ·by_cases h2:n<0 <;> simp [h,h2]
theorem zgcd (a b z:Nat) (w:World) (hz:Nat.gcd a b=z) (ha:wl a≤549755813888) (hb:wl b≤549755813888) :
  Calls Tryz.prog 139 #[(Value.agg #[.int .u64 (lo a),.string (bg a)]),(Value.agg #[.int .u64 (lo b),.string (bg b)])] w fun e w'=>e=.returned (Value.agg #[.int .u64 (lo z),.string (bg z)])∧Below w.heap.size w w':=hz ▸ xo8 a b w ha hb
theorem zdiv (a b q r:Nat) (w:World) (hq:a / b=q) (hr:a % b=r) (h0:0<b) (ha:wl a≤549755813888) (hb:wl b≤549755813888) :
  Calls Tryz.prog 173 #[(Value.agg #[.int .u64 (lo a),.string (bg a)]),(Value.agg #[.int .u64 (lo b),.string (bg b)])] w fun e w'=>e=.returned (.tuple #[(Value.agg #[.int .u64 (lo q),.string (bg q)]),(Value.agg #[.int .u64 (lo r),.string (bg r)]),.bool true])∧Below w.heap.size w w':=by
 subst hq hr
 refine (qu4 a b w ha hb).mono ?_
 rintro e w' ⟨h1,h2⟩
 rw [if_neg (by omega)] at h1
 exact ⟨h1,h2⟩
theorem zsub (a b z:Nat) (w:World) (hz:a - b=z) (h0:b≤a) (ha:wl a≤1099511627776) (hb:wl b≤1099511627776) :
  Calls Tryz.prog 171 #[(Value.agg #[.int .u64 (lo a),.string (bg a)]),(Value.agg #[.int .u64 (lo b),.string (bg b)])] w fun e w'=>e=.returned (.tuple #[(Value.agg #[.int .u64 (lo z),.string (bg z)]),.bool true])∧Below w.heap.size w w':=by
 have h:=qz7 a b w ha hb
 rw [hz,decide_eq_true h0] at h
 exact h
theorem zadd (a b z:Nat) (w:World) (hz:a+b=z) (ha:wl a≤549755813888) (hb:wl b≤549755813888) :
  Calls Tryz.prog 122 #[(Value.agg #[.int .u64 (lo a),.string (bg a)]),(Value.agg #[.int .u64 (lo b),.string (bg b)])] w fun e w'=>e=.returned (Value.agg #[.int .u64 (lo z),.string (bg z)])∧Below w.heap.size w w':=hz ▸ qu8 a b w ha hb
theorem zmul (a b z:Nat) (w:World) (hz:a*b=z) (ha:wl a≤549755813888) (hb:wl b≤549755813888) :
  Calls Tryz.prog 112 #[(Value.agg #[.int .u64 (lo a),.string (bg a)]),(Value.agg #[.int .u64 (lo b),.string (bg b)])] w fun e w'=>e=.returned (Value.agg #[.int .u64 (lo z),.string (bg z)])∧Below w.heap.size w w':=hz ▸ qq3 a b w ha hb
theorem zof (n:Nat) (w:World) (h:n<18446744073709551616) :
  Calls Tryz.prog 124 #[.int .u64 ((n:Nat):Int)] w fun e w'=>e=.returned (Value.agg #[.int .u64 (lo n),.string (bg n)])∧Below w.heap.size w w':=qt4 n w (by omega) (by omega)
theorem qo0 (a b:Int):wl (Int.natAbs (a+b))≤max (wl a.natAbs) (wl b.natAbs)+1:=Nat.le_trans (qb4 (Int.natAbs_add_le a b)) (qo3 _ _)
theorem ql1 (a b:Int):wl (Int.natAbs (a*b))≤wl a.natAbs+wl b.natAbs:=by rw [Int.natAbs_mul];exact qk6 _ _
theorem qN1 (a b z:Int) (w:World) (hz:a+b=z) (ha:wl a.natAbs≤274877906944) (hb:wl b.natAbs≤274877906944) :
  Calls Tryz.prog 107 #[(Value.agg #[.int .u64 (lo a.natAbs),.string (bg a.natAbs),.bool (a<0)]),(Value.agg #[.int .u64 (lo b.natAbs),.string (bg b.natAbs),.bool (b<0)])] w fun e w'=>e=.returned (Value.agg #[.int .u64 (lo z.natAbs),.string (bg z.natAbs),.bool (z<0)])∧Below w.heap.size w w':=hz ▸ xg4 a b w ha hb
theorem qA1 (a b z:Int) (w:World) (hz:a*b=z) (ha:wl a.natAbs≤274877906944) (hb:wl b.natAbs≤274877906944) :
  Calls Tryz.prog 110 #[(Value.agg #[.int .u64 (lo a.natAbs),.string (bg a.natAbs),.bool (a<0)]),(Value.agg #[.int .u64 (lo b.natAbs),.string (bg b.natAbs),.bool (b<0)])] w fun e w'=>e=.returned (Value.agg #[.int .u64 (lo z.natAbs),.string (bg z.natAbs),.bool (z<0)])∧Below w.heap.size w w':=hz ▸ xc8 a b w ha hb
theorem xy3 (a b t:Int) (w:World) (ht:sgI (a - b)=t) (ha:wl a.natAbs≤274877906944) (hb:wl b.natAbs≤274877906944) :
  Calls Tryz.prog 125 #[(Value.agg #[.int .u64 (lo a.natAbs),.string (bg a.natAbs),.bool (a<0)]),(Value.agg #[.int .u64 (lo b.natAbs),.string (bg b.natAbs),.bool (b<0)])] w fun e w'=>e=.returned (.int .i64 t)∧Below w.heap.size w w':=ht ▸ xd7 a b w ha hb
theorem xC_ (a z:Int) (w:World) (hz:-a=z) :
  Calls Tryz.prog 105 #[(Value.agg #[.int .u64 (lo a.natAbs),.string (bg a.natAbs),.bool (a<0)])] w fun e w'=>e=.returned (Value.agg #[.int .u64 (lo z.natAbs),.string (bg z.natAbs),.bool (z<0)])∧Below w.heap.size w w':=hz ▸ qR4 a w
theorem qV9 (a t:Int) (w:World) (ht:sgI a=t) :
  Calls Tryz.prog 120 #[(Value.agg #[.int .u64 (lo a.natAbs),.string (bg a.natAbs),.bool (a<0)])] w fun e w'=>e=.returned (.int .i64 t)∧Below w.heap.size w w':=ht ▸ qz9 a w
end Go.Proofs.YtaflakcemiilaaaGreatDoor
