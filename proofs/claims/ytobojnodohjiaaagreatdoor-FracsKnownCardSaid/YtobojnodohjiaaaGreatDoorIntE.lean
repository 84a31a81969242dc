
/- ints: equality, Sub in z-form, plain facts. -/
import Derived.Test.YtobojnodohjiaaaGreatDoorPO
import Derived.Test.YtobojnodohjiaaaGreatDoorIntZ
import Derived.Test.YtobojnodohjiaaaGreatDoorPI
import Derived.Test.YtobojnodohjiaaaGreatDoorPL
set_option linter.unusedVariables false
set_option linter.unusedSimpArgs false
namespace Go.Proofs.YtobojnodohjiaaaGreatDoor
theorem qH6 {a b q r:Int} (h:q*b+r=a) (h0:0≤r) (h1:r<(b.natAbs:Int)):a / b=q∧a % b=r:=by
 have hb:b≠0:=fun e=>by subst e;simp at h1;omega
 have hm:a % b=r:=by
  rw [← h,Int.add_comm,Int.add_mul_emod_self_right]
  rcases Int.lt_or_gt_of_ne hb with hn|hp
  ·rw [show b = -(-b) from (Int.neg_neg b).symm,Int.emod_neg,Int.emod_eq_of_lt h0 (by omega)]
  exact Int.emod_eq_of_lt h0 (by omega)
 refine ⟨?_,hm⟩
 have h2:=Int.mul_ediv_add_emod a b
 rw [hm] at h2
 have h3:b*(a / b)=b*q:=by rw [Int.mul_comm b q];omega
 exact Int.eq_of_mul_eq_mul_left hb h3
theorem qV3 (a b:Int):((a.natAbs / b.natAbs:Nat):Int)*(b.natAbs:Int)+((a.natAbs % b.natAbs:Nat):Int)=(a.natAbs:Int):=by
 have:=Nat.div_add_mod' a.natAbs b.natAbs
 exact_mod_cast this
theorem qz2 {a b:Int} (hb:b≠0) (h:0≤a∨a.natAbs % b.natAbs=0) :
  (if (decide (a<0) != decide (b<0)) then -((a.natAbs / b.natAbs:Nat):Int) else ((a.natAbs / b.natAbs:Nat):Int))=a / b∧(if decide (a<0) then -((a.natAbs % b.natAbs:Nat):Int) else ((a.natAbs % b.natAbs:Nat):Int))=a % b:=by
 have e:=qV3 a b
 have hlt:a.natAbs % b.natAbs<b.natAbs:=Nat.mod_lt _ (by omega)
 obtain ⟨d,hd⟩:∃ d,a.natAbs / b.natAbs=d:=⟨_,rfl⟩
 obtain ⟨m,hm⟩:∃ m,a.natAbs % b.natAbs=m:=⟨_,rfl⟩
 rw [hd,hm] at e
 rw [hm] at h hlt
 rw [hd,hm]
 obtain ⟨q,r⟩:=qH6 (a:=a) (b:=b) (q:=if (decide (a<0) != decide (b<0)) then -(d:Int) else (d:Int)) (r:=if decide (a<0) then -(m:Int) else (m:Int)) (by
  by_cases ha:a<0 <;> by_cases hb2:b<0 <;> simp only [ha,hb2,decide_true,decide_false,bne_self_eq_false,Bool.false_eq_true,if_false,if_true,bne_iff_ne,ne_eq,not_false_eq_true,reduceCtorEq,Bool.true_eq_false]
  ·rw [show (b.natAbs:Int) = -b by omega,show (a.natAbs:Int) = -a by omega] at e
   grind
  ·rw [show (b.natAbs:Int)=b by omega,show (a.natAbs:Int) = -a by omega] at e
   grind
  ·rw [show (b.natAbs:Int) = -b by omega,show (a.natAbs:Int)=a by omega] at e
   grind
  ·rw [show (b.natAbs:Int)=b by omega,show (a.natAbs:Int)=a by omega] at e
   grind) (by
  rcases h with h|h
  ·rw [decide_eq_false (by omega)];simp
  ·rw [h];simp) (by
  rcases h with h|h
  ·rw [decide_eq_false (by omega)];simp;omega
  rw [h];simp;omega)
 exact ⟨q.symm,r.symm⟩
theorem qt3 {a b:Int} (hb:b≠0) (ha:a<0) (hm0:a.natAbs % b.natAbs≠0) :
  -((a.natAbs % b.natAbs:Nat):Int)+(b.natAbs:Int)=a % b ∧
   (if (decide (a<0) != decide (b<0)) then -((a.natAbs / b.natAbs:Nat):Int) else ((a.natAbs / b.natAbs:Nat):Int)) - (if b<0 then -1 else 1)=a / b:=by
 have e:=qV3 a b
 have hlt:a.natAbs % b.natAbs<b.natAbs:=Nat.mod_lt _ (by omega)
 obtain ⟨d,hd⟩:∃ d,a.natAbs / b.natAbs=d:=⟨_,rfl⟩
 obtain ⟨m,hm⟩:∃ m,a.natAbs % b.natAbs=m:=⟨_,rfl⟩
 rw [hd,hm] at e
 rw [hm] at hm0 hlt
 rw [hd,hm]
 obtain ⟨q,r⟩:=qH6 (a:=a) (b:=b) (q:=(if (decide (a<0) != decide (b<0)) then -(d:Int) else (d:Int)) - (if b<0 then -1 else 1)) (r:=-(m:Int)+(b.natAbs:Int)) (by
  by_cases hb2:b<0 <;> simp only [ha,hb2,decide_true,decide_false,bne_self_eq_false,Bool.false_eq_true,if_false,if_true,bne_iff_ne,ne_eq,not_false_eq_true,reduceCtorEq,Bool.true_eq_false]
  ·rw [show (b.natAbs:Int) = -b by omega,show (a.natAbs:Int) = -a by omega] at e
   rw [show (b.natAbs:Int) = -b by omega]
   grind
  rw [show (b.natAbs:Int)=b by omega,show (a.natAbs:Int) = -a by omega] at e
  rw [show (b.natAbs:Int)=b by omega]
  grind) (by omega) (by omega)
 exact ⟨r.symm,q.symm⟩
def pr (a b:Int):Nat→Int × Int
 | 0=>(a,b)
 | i+1=>((pr a b i).2,(pr a b i).1 % (pr a b i).2)
theorem qt7 (a:Int) {b:Int} (h:b≠0):(a % b).natAbs<b.natAbs∧0≤a % b:=by
 have h1:=Int.emod_nonneg a h
 have h2:a % b<(b.natAbs:Int):=Int.emod_lt a h
 constructor <;> omega
theorem xD8 (a b:Int) (hb:b≠0):(a / b).natAbs*b.natAbs≤a.natAbs+(a % b).natAbs:=by
 have e:=Int.mul_ediv_add_emod a b
 rw [← Int.natAbs_mul,Int.mul_comm]
 omega
end Go.Proofs.YtobojnodohjiaaaGreatDoor

set_option linter.unusedVariables false
set_option linter.unusedSimpArgs false
namespace Go.Proofs.YtobojnodohjiaaaGreatDoor
open Go.RowKit
attribute [local go_sem ↓] Go.wp_at_zero Go.wp_at_succ
attribute [local go_sem ↓] eq_nat eq_nat_zero
theorem eq_int (d:Nat) (a b:Int) (w:World):(Op.equalIn (d+4) 34 (Value.agg #[.int .u64 (lo a.natAbs),.string (bg a.natAbs),.bool (a<0)]) (Value.agg #[.int .u64 (lo b.natAbs),.string (bg b.natAbs),.bool (b<0)])).run Tryz.prog w=.ok (decide (a=b)) w:=by
 by_cases h:a=b
 ·subst h;simp [go_sem,eq_nat]
 by_cases hn:a.natAbs=b.natAbs
 ·have hs:¬ ((a<0)=(b<0)):=fun e=>by
   by_cases h1:a<0
   ·have h2:b<0:=e ▸ h1
    omega
   have h2:¬ b<0:=e ▸ h1
   omega
  simp [go_sem,eq_nat,h,hn]
  simpa using hs
 simp [go_sem,eq_nat,h,hn]
theorem eq_frac (d:Nat) (a b:Rat) (w:World):(Op.equalIn (d+5) 36 (Value.agg #[.int .u64 (lo a.num.natAbs),.string (bg a.num.natAbs),.bool (a.num<0),.int .u64 (lo (a.den - 1)),.string (bg (a.den - 1))]) (Value.agg #[.int .u64 (lo b.num.natAbs),.string (bg b.num.natAbs),.bool (b.num<0),.int .u64 (lo (b.den - 1)),.string (bg (b.den - 1))])).run Tryz.prog w=.ok (decide (a=b)) w:=by
 have e:decide (a=b)=(decide (a.num=b.num) && decide (a.den - 1=b.den - 1)):=by
  rw [← Bool.decide_and]
  apply decide_eq_decide.2
  constructor
  ·rintro rfl;exact ⟨rfl,rfl⟩
  rintro ⟨h1,h2⟩; exact xd9 h1 h2
 rw [e]
 simp [go_sem,eq_int,eq_nat]
 by_cases h1:a.num=b.num <;> by_cases h2:a.den - 1=b.den - 1 <;> simp [h1,h2]
theorem eq_frac_zero (d:Nat) (a:Rat) (w:World):(Op.equalIn (d+5) 36 (Value.agg #[.int .u64 (lo a.num.natAbs),.string (bg a.num.natAbs),.bool (a.num<0),.int .u64 (lo (a.den - 1)),.string (bg (a.den - 1))]) (Value.agg #[.int .u64 0,.string ⟨#[]⟩,.bool false,.int .u64 0,.string ⟨#[]⟩])).run Tryz.prog w=.ok (decide (a=0)) w:=eq_frac d a 0 w
end Go.Proofs.YtobojnodohjiaaaGreatDoor

set_option linter.unusedVariables false
set_option linter.unusedSimpArgs false
namespace Go.Proofs.YtobojnodohjiaaaGreatDoor
open Go.RowKit
attribute [local go_sem ↓] Go.wp_at_zero Go.wp_at_succ
theorem xB3 (a b z:Int) (w:World) (hz:a - b=z) (ha:wl a.natAbs≤274877906944) (hb:wl b.natAbs≤274877906944) :
  CB 98 #[(Value.agg #[.int .u64 (lo a.natAbs),.string (bg a.natAbs),.bool (a<0)]),(Value.agg #[.int .u64 (lo b.natAbs),.string (bg b.natAbs),.bool (b<0)])] w (Value.agg #[.int .u64 (lo z.natAbs),.string (bg z.natAbs),.bool (z<0)]):=hz ▸ qI1 a b w ha hb
theorem xa2 (a b:Int):wl (Int.natAbs (a - b))≤max (wl a.natAbs) (wl b.natAbs)+1:=by
 have:=qm1 a (-b)
 rw [Int.natAbs_neg] at this
 rw [Int.sub_eq_add_neg];exact this
theorem xl_ {n:Int} (h1:-9223372036854775808≤n) (h2:n≤9223372036854775807):wl n.natAbs≤2:=wl_le.2 (by rw [show bp 2=18446744073709551616 from by decide];omega)
theorem qX_ {a:Int} (h:a<0):sgI a = -1:=by unfold sgI;rw [if_neg om,if_pos h]
theorem xx4 {a:Int} (h:0<a):sgI a=1:=by unfold sgI;rw [if_neg om,if_neg om]
theorem qR5 (a b:Int):(a / b).natAbs≤a.natAbs+1:=by
 by_cases hb:b=0
 ·subst hb;simp
 have hq:=xD8 a b hb
 have hm:=qt7 a hb
 have h1:(a / b).natAbs*b.natAbs≤(a.natAbs+1)*b.natAbs∨(a / b).natAbs≤a.natAbs+1:=by
  rcases Nat.lt_or_ge (a.natAbs+1) (a / b).natAbs with h|h
  ·have h3:(a.natAbs+2)*b.natAbs≤(a / b).natAbs*b.natAbs:=Nat.mul_le_mul_right _ h
   have h4:(a.natAbs+2)*b.natAbs=a.natAbs*b.natAbs+2*b.natAbs:=Nat.add_mul ..
   have h5:a.natAbs*1≤a.natAbs*b.natAbs:=Nat.mul_le_mul_left _ om
   omega
  exact .inr h
 rcases h1 with h|h
 ·exact Nat.le_of_mul_le_mul_right h om
 exact h
theorem xa1 (a b:Int):wl (a / b).natAbs≤wl a.natAbs+1:=by
 have h1:=qb6 (qR5 a b)
 have h2:=wl_add a.natAbs 1
 by_cases h:a=0
 ·subst h;simp at h1 ⊢
 have h3:wl 1≤1:=wl_small (by decide)
 have h4:1≤wl a.natAbs:=by
  rcases Nat.eq_zero_or_pos (wl a.natAbs) with e|e
  ·have:=wl_le.1 (Nat.le_of_eq e)
   rw [show bp 0=1 from rfl] at this
   omega
  exact e
 omega
theorem xs5 (a b:Int) (h:b≠0):wl (a % b).natAbs≤wl b.natAbs:=qb6 (Nat.le_of_lt (qt7 a h).1)
theorem dq {a b:Int} (s t:Bool) (ha:decide (a<0)=s) (hb:decide (b<0)=t) (h0:b≠0) (h:0≤a∨a.natAbs % b.natAbs=0) :
  (if (s != t) then -((a.natAbs / b.natAbs:Nat):Int) else ((a.natAbs / b.natAbs:Nat):Int))=a / b:=by subst ha hb;exact (qz2 h0 h).1
theorem dr {a b:Int} (s:Bool) (ha:decide (a<0)=s) (h0:b≠0) (h:0≤a∨a.natAbs % b.natAbs=0) :
  (if s then -((a.natAbs % b.natAbs:Nat):Int) else ((a.natAbs % b.natAbs:Nat):Int))=a % b:=by subst ha;exact (qz2 h0 h).2
theorem dc {a b:Int} (t:Bool) (ha:a<0) (hb:decide (b<0)=t) (h0:b≠0) (h:a.natAbs % b.natAbs≠0) :
  (if (true != t) then -((a.natAbs / b.natAbs:Nat):Int) else ((a.natAbs / b.natAbs:Nat):Int)) - (if t then -1 else 1)=a / b:=by
 have e:=(qt3 h0 ha h).2
 subst hb
 rw [decide_eq_true ha] at e
 simpa only [decide_eq_true_eq] using e
end Go.Proofs.YtobojnodohjiaaaGreatDoor
