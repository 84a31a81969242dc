
/- ints: equality, Sub in z-form, plain facts. -/
import Derived.Test.YtobojnodohjiaaaGreatDoorPO
import Derived.Test.YtobojnodohjiaaaGreatDoorHp
import Derived.Test.YtobojnodohjiaaaGreatDoorPI
import Derived.Test.YtobojnodohjiaaaGreatDoorPL
set_option linter.unusedVariables false
set_option linter.unusedSimpArgs false
namespace Go.Proofs.YtobojnodohjiaaaGreatDoor
section
theorem qG8 {a b q r:Int} (h:q*b+r=a) (h0:0≤r) (h1:r<(b.natAbs:Int)):a / b=q∧a % b=r:=by
 have hb:b≠0:=fun e=>by subst e;simp at h1;omega
 have hm:a % b=r:=by
  rw [← h,Int.add_comm,Int.add_mul_emod_self_right]
  rcases Int.lt_or_gt_of_ne hb with hn|hp
  ·rw [show b = -(-b) from (Int.neg_neg b).symm,Int.emod_neg,Int.emod_eq_of_lt h0 om]
  ·exact Int.emod_eq_of_lt h0 om
 refine ⟨?_,hm⟩
 have h2:=Int.mul_ediv_add_emod a b
 rw [hm] at h2
 have h3:b*(a / b)=b*q:=by rw [Int.mul_comm b q];omega
 exact Int.eq_of_mul_eq_mul_left hb h3
theorem qU0 (a b:Int):((a.natAbs / b.natAbs:Nat):Int)*(b.natAbs:Int)+((a.natAbs % b.natAbs:Nat):Int)=(a.natAbs:Int):=by
 have:=Nat.div_add_mod' a.natAbs b.natAbs
 exact_mod_cast this
theorem qy6 {a b:Int} (hb:b≠0) (h:0≤a∨a.natAbs % b.natAbs=0) :
  (if (decide (a<0) != decide (b<0)) then -((a.natAbs / b.natAbs:Nat):Int) else ((a.natAbs / b.natAbs:Nat):Int))=a / b∧(if decide (a<0) then -((a.natAbs % b.natAbs:Nat):Int) else ((a.natAbs % b.natAbs:Nat):Int))=a % b:=by
 have e:=qU0 a b
 have hlt:a.natAbs % b.natAbs<b.natAbs:=Nat.mod_lt _ om
 obtain ⟨d,hd⟩:∃ d,a.natAbs / b.natAbs=d:=⟨_,rfl⟩
 obtain ⟨m,hm⟩:∃ m,a.natAbs % b.natAbs=m:=⟨_,rfl⟩
 rw [hd,hm] at e
 rw [hm] at h hlt
 rw [hd,hm]
 obtain ⟨q,r⟩:=qG8 (a:=a) (b:=b) (q:=if (decide (a<0) != decide (b<0)) then -(d:Int) else (d:Int)) (r:=if decide (a<0) then -(m:Int) else (m:Int)) (by
  by_cases ha:a<0 <;> by_cases hb2:b<0 <;> simp only [ha,hb2,decide_true,decide_false,bne_self_eq_false,Bool.false_eq_true,if_false,if_true,bne_iff_ne,ne_eq,not_false_eq_true,reduceCtorEq,Bool.true_eq_false]
  ·rw [show (b.natAbs:Int) = -b by omega,show (a.natAbs:Int) = -a by omega] at e
   grind
  ·rw [show (b.natAbs:Int)=b by omega,show (a.natAbs:Int) = -a by omega] at e
   grind
  ·rw [show (b.natAbs:Int) = -b by omega,show (a.natAbs:Int)=a by omega] at e
   grind
  ·rw [show (b.natAbs:Int)=b by omega,show (a.natAbs:Int)=a by omega] at e
   grind) (by
  rcases h with h|h
  ·rw [decide_eq_false om];simp
  ·rw [h];simp) (by
  rcases h with h|h
  ·rw [decide_eq_false om];simp;omega
  ·rw [h];simp;omega)
 exact ⟨q.symm,r.symm⟩
theorem qr6 {a b:Int} (hb:b≠0) (ha:a<0) (hm0:a.natAbs % b.natAbs≠0) :
  -((a.natAbs % b.natAbs:Nat):Int)+(b.natAbs:Int)=a % b ∧
   (if (decide (a<0) != decide (b<0)) then -((a.natAbs / b.natAbs:Nat):Int) else ((a.natAbs / b.natAbs:Nat):Int)) - (if b<0 then -1 else 1)=a / b:=by
 have e:=qU0 a b
 have hlt:a.natAbs % b.natAbs<b.natAbs:=Nat.mod_lt _ om
 obtain ⟨d,hd⟩:∃ d,a.natAbs / b.natAbs=d:=⟨_,rfl⟩
 obtain ⟨m,hm⟩:∃ m,a.natAbs % b.natAbs=m:=⟨_,rfl⟩
 rw [hd,hm] at e
 rw [hm] at hm0 hlt
 rw [hd,hm]
 obtain ⟨q,r⟩:=qG8 (a:=a) (b:=b) (q:=(if (decide (a<0) != decide (b<0)) then -(d:Int) else (d:Int)) - (if b<0 then -1 else 1)) (r:=-(m:Int)+(b.natAbs:Int)) (by
  by_cases hb2:b<0 <;> simp only [ha,hb2,decide_true,decide_false,bne_self_eq_false,Bool.false_eq_true,if_false,if_true,bne_iff_ne,ne_eq,not_false_eq_true,reduceCtorEq,Bool.true_eq_false]
  ·rw [show (b.natAbs:Int) = -b by omega,show (a.natAbs:Int) = -a by omega] at e
   rw [show (b.natAbs:Int) = -b by omega]
   grind
  ·rw [show (b.natAbs:Int)=b by omega,show (a.natAbs:Int) = -a by omega] at e
   rw [show (b.natAbs:Int)=b by omega]
   grind) om om
 exact ⟨r.symm,q.symm⟩
def pr (a b:Int):Nat→Int × Int
 | 0=>(a,b)
 | i+1=>((pr a b i).2,(pr a b i).1 % (pr a b i).2)
theorem qk2 (a b:Int) (i:Nat):pr a b (i+1)=((pr a b i).2,(pr a b i).1 % (pr a b i).2):=rfl
def egcd (a b:Int):Int × Int × Int :=
 if h:b=0 then (a.natAbs,sgI a,0) else
  have:(a % b).natAbs<b.natAbs:=by
   have h1:=Int.emod_nonneg a h
   have h2:a % b<(b.natAbs:Int):=Int.emod_lt a h
   omega
  let t:=egcd b (a % b)
  (t.1,t.2.2,t.2.1 - (a / b)*t.2.2)
termination_by b.natAbs
theorem qi2 (a:Int):egcd a 0=((a.natAbs:Int),sgI a,0):=by rw [egcd];simp
theorem qj_ (a:Int) {b:Int} (h:b≠0):egcd a b=((egcd b (a % b)).1,(egcd b (a % b)).2.2,(egcd b (a % b)).2.1 - (a / b)*(egcd b (a % b)).2.2):=by
 rw [egcd,dif_neg h]
theorem xA6 (a:Int):a*sgI a=(a.natAbs:Int):=by
 unfold sgI
 split
 ·rename_i h;subst h;rfl
 ·split <;> omega
theorem qg5 (a:Int) {b:Int} (h:b≠0):(a % b).natAbs<b.natAbs∧0≤a % b:=by
 have h1:=Int.emod_nonneg a h
 have h2:a % b<(b.natAbs:Int):=Int.emod_lt a h
 constructor <;> omega
theorem qi9:∀ (k:Nat) (a b:Int),b.natAbs≤k→(egcd a b).1=((Nat.gcd a.natAbs b.natAbs:Nat):Int)∧a*(egcd a b).2.1+b*(egcd a b).2.2=(egcd a b).1
 | k,a,b,hk=>by
  by_cases h:b=0
  ·subst h
   rw [qi2]
   refine ⟨by simp,?_⟩
   show a*sgI a+0*0=_
   rw [xA6];omega
  ·have hm:=qg5 a h
   match k,hk with
   | 0,hk=>omega
   | k+1,hk =>
    obtain ⟨h1,h2⟩:=qi9 k b (a % b) om
    rw [qj_ a h]
    refine ⟨?_,?_⟩
    ·show (egcd b (a % b)).1=_
     rw [h1]
     have e:Int.gcd b (a % b)=Int.gcd a b:=by
      have e1:=Int.mul_ediv_add_emod a b
      have e2:Int.gcd b (a % b+b*(a / b))=Int.gcd b (a % b):=Int.gcd_add_mul_left_right ..
      rw [← e2,Int.add_comm,e1,Int.gcd_comm]
     exact congrArg Int.ofNat e
    ·show a*(egcd b (a % b)).2.2+b*((egcd b (a % b)).2.1 - (a / b)*(egcd b (a % b)).2.2)=(egcd b (a % b)).1
     rw [← h2]
     have e:=Int.mul_ediv_add_emod a b
     generalize (egcd b (a % b)).2.2=y at *
     generalize (egcd b (a % b)).2.1=x at *
     generalize a / b=q at *
     generalize a % b=r at *
     subst e
     grind
theorem xp5 (a b:Int) (hb:b≠0):(a / b).natAbs*b.natAbs≤a.natAbs+(a % b).natAbs:=by
 have e:=Int.mul_ediv_add_emod a b
 rw [← Int.natAbs_mul,Int.mul_comm]
 omega
theorem qr7:∀ (k:Nat) (a b:Int),b.natAbs≤k→0≤a→0≤b→(egcd a b).2.1.natAbs≤max 1 b.natAbs∧(egcd a b).2.2.natAbs≤max 1 a.natAbs
 | k,a,b,hk,ha,hb=>by
  by_cases h:b=0
  ·subst h
   rw [qi2]
   refine ⟨?_,by simp⟩
   show (sgI a).natAbs≤_
   unfold sgI
   split <;> (try split) <;> simp
  ·have hm:=qg5 a h
   match k,hk with
   | 0,hk=>omega
   | k+1,hk =>
    obtain ⟨h1,h2⟩:=qr7 k b (a % b) om hb hm.2
    rw [qj_ a h]
    refine ⟨by show (egcd b (a % b)).2.2.natAbs≤_;omega,?_⟩
    show ((egcd b (a % b)).2.1 - (a / b)*(egcd b (a % b)).2.2).natAbs≤_
    by_cases hr:a % b=0
    ·rw [hr,qi2]
     show (sgI b - a / b*0).natAbs≤_
     rw [Int.mul_zero,Int.sub_zero]
     unfold sgI
     split <;> (try split) <;> simp <;> omega
    ·have e:=Int.mul_ediv_add_emod a b
     have hq:0≤a / b:=Int.ediv_nonneg ha hb
     have h3:((a / b)*(egcd b (a % b)).2.2).natAbs≤(a / b).natAbs*b.natAbs:=by
      rw [Int.natAbs_mul];exact Nat.mul_le_mul_left _ om
     have h4:(a / b).natAbs*b.natAbs=(b*(a / b)).natAbs:=by rw [Int.natAbs_mul,Nat.mul_comm]
     have h5:0≤b*(a / b):=Int.mul_nonneg hb hq
     omega
theorem qu0 (a b:Int):(egcd a b).2.1.natAbs≤5*(a.natAbs+b.natAbs)+5∧(egcd a b).2.2.natAbs≤5*(a.natAbs+b.natAbs)+5:=by
 by_cases h:b=0
 ·subst h
  rw [qi2]
  refine ⟨?_,by simp⟩
  show (sgI a).natAbs≤_
  unfold sgI
  split <;> (try split) <;> simp <;> omega
 have hm:=qg5 a h
 rw [qj_ a h]
 show (egcd b (a % b)).2.2.natAbs≤_∧((egcd b (a % b)).2.1 - (a / b)*(egcd b (a % b)).2.2).natAbs≤_
 by_cases hr:a % b=0
 ·rw [hr,qi2]
  refine ⟨by simp,?_⟩
  show (sgI b - a / b*0).natAbs≤_
  rw [Int.mul_zero,Int.sub_zero]
  unfold sgI
  split <;> (try split) <;> simp <;> omega
 have hm2:=qg5 b hr
 obtain ⟨r,hrr⟩:∃ r,a % b=r:=⟨_,rfl⟩
 have hqa:=xp5 a b h
 rw [hrr] at hm hr hm2 hqa ⊢
 obtain ⟨h1,h2⟩:=qr7 _ r (b % r) (Nat.le_refl _) hm.2 hm2.2
 have hqb:=xp5 b r hr
 rw [qj_ b hr]
 show ((egcd r (b % r)).2.1 - (b / r)*(egcd r (b % r)).2.2).natAbs≤_∧((egcd r (b % r)).2.2 - (a / b)*((egcd r (b % r)).2.1 - (b / r)*(egcd r (b % r)).2.2)).natAbs≤_
 generalize (egcd r (b % r)).2.1=x at *
 generalize (egcd r (b % r)).2.2=y at *
 obtain ⟨s,hs⟩:∃ s,b % r=s:=⟨_,rfl⟩
 rw [hs] at h1 hm2 hqb
 have hy:y.natAbs≤r.natAbs:=by omega
 have h3:((b / r)*y).natAbs≤(b / r).natAbs*r.natAbs:=by rw [Int.natAbs_mul];exact Nat.mul_le_mul_left _ hy
 have hY:(x - (b / r)*y).natAbs≤3*b.natAbs+1:=by omega
 generalize x - (b / r)*y=Y at *
 have h4:((a / b)*Y).natAbs≤(a / b).natAbs*(3*b.natAbs+1):=by rw [Int.natAbs_mul];exact Nat.mul_le_mul_left _ hY
 have h5:(a / b).natAbs*(3*b.natAbs+1)=3*((a / b).natAbs*b.natAbs)+(a / b).natAbs:=by rw [Nat.mul_add,Nat.mul_one,Nat.mul_left_comm]
 have h6:(a / b).natAbs*1≤(a / b).natAbs*b.natAbs:=Nat.mul_le_mul_left _ om
 constructor <;> omega
theorem qn7 (a b:Int):∀ i,(∀ j,j<i→(pr a b j).2≠0)→(pr a b i).1.natAbs≤a.natAbs+b.natAbs∧(pr a b i).2.natAbs≤b.natAbs
 | 0,_=>⟨by show a.natAbs≤_;omega,Nat.le_refl _⟩
 | i+1,h=>by
  obtain ⟨h1,h2⟩:=qn7 a b i (fun j hj=>h j om)
  have hm:=qg5 (pr a b i).1 (h i om)
  rw [qk2]
  exact ⟨by show (pr a b i).2.natAbs≤_;omega,by show ((pr a b i).1 % (pr a b i).2).natAbs≤_;omega⟩
theorem xm4 (a b:Int) (i:Nat) (h:(pr a b i).2≠0):egcd (pr a b i).1 (pr a b i).2=((egcd (pr a b (i+1)).1 (pr a b (i+1)).2).1,(egcd (pr a b (i+1)).1 (pr a b (i+1)).2).2.2,(egcd (pr a b (i+1)).1 (pr a b (i+1)).2).2.1 - ((pr a b i).1 / (pr a b i).2)*(egcd (pr a b (i+1)).1 (pr a b (i+1)).2).2.2):=by
 rw [qj_ _ h,qk2]
end
section
open Go.RowKit
attribute [local go_sem ↓] Go.wp_at_zero Go.wp_at_succ
attribute [local go_sem ↓] qb8 qa3
theorem qc8 (d:Nat) (a b:Int) (w:World):(Op.equalIn (d+4) 34 (Value.agg #[.int .u64 (lo a.natAbs),.string (bg a.natAbs),.bool (a<0)]) (Value.agg #[.int .u64 (lo b.natAbs),.string (bg b.natAbs),.bool (b<0)])).run Tryz.prog w=.ok (decide (a=b)) w:=by
 by_cases h:a=b
 ·subst h;simp [go_sem,qb8]
 ·by_cases hn:a.natAbs=b.natAbs
  ·have hs:¬ ((a<0)=(b<0)):=fun e=>by
    by_cases h1:a<0
    ·have h2:b<0:=e ▸ h1
     omega
    ·have h2:¬ b<0:=e ▸ h1
     omega
   simp [go_sem,qb8,h,hn]
   simpa using hs
  ·simp [go_sem,qb8,h,hn]
theorem qd9 (d:Nat) (a b:Rat) (w:World):(Op.equalIn (d+5) 36 (Value.agg #[.int .u64 (lo a.num.natAbs),.string (bg a.num.natAbs),.bool (a.num<0),.int .u64 (lo (a.den - 1)),.string (bg (a.den - 1))]) (Value.agg #[.int .u64 (lo b.num.natAbs),.string (bg b.num.natAbs),.bool (b.num<0),.int .u64 (lo (b.den - 1)),.string (bg (b.den - 1))])).run Tryz.prog w=.ok (decide (a=b)) w:=by
 have e:decide (a=b)=(decide (a.num=b.num) && decide (a.den - 1=b.den - 1)):=by
  rw [← Bool.decide_and]
  apply decide_eq_decide.2
  constructor
  ·rintro rfl;exact ⟨rfl,rfl⟩
  ·rintro ⟨h1,h2⟩; exact xb5 h1 h2
 rw [e]
 simp [go_sem,qc8,qb8]
 by_cases h1:a.num=b.num <;> by_cases h2:a.den - 1=b.den - 1 <;> simp [h1,h2]
theorem qb7 (d:Nat) (a:Rat) (w:World):(Op.equalIn (d+5) 36 (Value.agg #[.int .u64 (lo a.num.natAbs),.string (bg a.num.natAbs),.bool (a.num<0),.int .u64 (lo (a.den - 1)),.string (bg (a.den - 1))]) (Value.agg #[.int .u64 0,.string ⟨#[]⟩,.bool false,.int .u64 0,.string ⟨#[]⟩])).run Tryz.prog w=.ok (decide (a=0)) w:=qd9 d a 0 w
end
section
open Go.RowKit
attribute [local go_sem ↓] Go.wp_at_zero Go.wp_at_succ
theorem qB1 (a b z:Int) (w:World) (hz:a - b=z) (ha:wl a.natAbs≤274877906944) (hb:wl b.natAbs≤274877906944) :
  Calls Tryz.prog 98 #[(Value.agg #[.int .u64 (lo a.natAbs),.string (bg a.natAbs),.bool (a<0)]),(Value.agg #[.int .u64 (lo b.natAbs),.string (bg b.natAbs),.bool (b<0)])] w fun e w'=>e=.returned (Value.agg #[.int .u64 (lo z.natAbs),.string (bg z.natAbs),.bool (z<0)])∧Below w.heap.size w w':=hz ▸ qG_ a b w ha hb
theorem qj4 (a b:Int):wl (Int.natAbs (a - b))≤max (wl a.natAbs) (wl b.natAbs)+1:=by
 have:=qf7 a (-b)
 rw [Int.natAbs_neg] at this
 rw [Int.sub_eq_add_neg];exact this
theorem qi6 {n:Int} (h1:-9223372036854775808≤n) (h2:n≤9223372036854775807):wl n.natAbs≤2:=qb1.2 (by rw [show bp 2=18446744073709551616 from by decide];omega)
theorem xj9 {a:Int} (h:a<0):sgI a = -1:=by unfold sgI;rw [if_neg om,if_pos h]
theorem xJ4 {a:Int} (h:a=0):sgI a=0:=by unfold sgI;rw [if_pos h]
theorem xj8 {a:Int} (h:0<a):sgI a=1:=by unfold sgI;rw [if_neg om,if_neg om]
theorem xm1 (a b:Int):(a / b).natAbs≤a.natAbs+1:=by
 by_cases hb:b=0
 ·subst hb;simp
 have hq:=xp5 a b hb
 have hm:=qg5 a hb
 have h1:(a / b).natAbs*b.natAbs≤(a.natAbs+1)*b.natAbs∨(a / b).natAbs≤a.natAbs+1:=by
  rcases Nat.lt_or_ge (a.natAbs+1) (a / b).natAbs with h|h
  ·have h3:(a.natAbs+2)*b.natAbs≤(a / b).natAbs*b.natAbs:=Nat.mul_le_mul_right _ h
   have h4:(a.natAbs+2)*b.natAbs=a.natAbs*b.natAbs+2*b.natAbs:=Nat.add_mul ..
   have h5:a.natAbs*1≤a.natAbs*b.natAbs:=Nat.mul_le_mul_left _ om
   omega
  ·exact .inr h
 rcases h1 with h|h
 ·exact Nat.le_of_mul_le_mul_right h om
 ·exact h
theorem qi0 (a b:Int):wl (a / b).natAbs≤wl a.natAbs+1:=by
 have h1:=qa4 (xm1 a b)
 have h2:=ql1 a.natAbs 1
 by_cases h:a=0
 ·subst h;simp at h1 ⊢
 ·have h3:wl 1≤1:=qa6 (by decide)
  have h4:1≤wl a.natAbs:=by
   rcases Nat.eq_zero_or_pos (wl a.natAbs) with e|e
   ·have:=qb1.1 (Nat.le_of_eq e)
    rw [show bp 0=1 from rfl] at this
    omega
   ·exact e
  omega
theorem ql2 (a b:Int) (h:b≠0):wl (a % b).natAbs≤wl b.natAbs:=qa4 (Nat.le_of_lt (qg5 a h).1)
theorem dq {a b:Int} (s t:Bool) (ha:decide (a<0)=s) (hb:decide (b<0)=t) (h0:b≠0) (h:0≤a∨a.natAbs % b.natAbs=0) :
  (if (s != t) then -((a.natAbs / b.natAbs:Nat):Int) else ((a.natAbs / b.natAbs:Nat):Int))=a / b:=by subst ha hb;exact (qy6 h0 h).1
theorem dr {a b:Int} (s:Bool) (ha:decide (a<0)=s) (h0:b≠0) (h:0≤a∨a.natAbs % b.natAbs=0) :
  (if s then -((a.natAbs % b.natAbs:Nat):Int) else ((a.natAbs % b.natAbs:Nat):Int))=a % b:=by subst ha;exact (qy6 h0 h).2
theorem dc {a b:Int} (t:Bool) (ha:a<0) (hb:decide (b<0)=t) (h0:b≠0) (h:a.natAbs % b.natAbs≠0) :
  (if (true != t) then -((a.natAbs / b.natAbs:Nat):Int) else ((a.natAbs / b.natAbs:Nat):Int)) - (if t then -1 else 1)=a / b:=by
 have e:=(qr6 h0 ha h).2
 subst hb
 rw [decide_eq_true ha] at e
 simpa only [decide_eq_true_eq] using e
end
end Go.Proofs.YtobojnodohjiaaaGreatDoor
