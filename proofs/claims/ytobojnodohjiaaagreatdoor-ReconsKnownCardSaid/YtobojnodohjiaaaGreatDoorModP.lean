
/- plain facts for ReconsPrimes. No condition but those stated. -/
import Derived.Test.YtobojnodohjiaaaGreatDoorModA
import Derived.Test.YtobojnodohjiaaaGreatDoorRsP
import Derived.Test.YtobojnodohjiaaaGreatDoorGreatP
set_option linter.unusedVariables false
set_option linter.unusedSimpArgs false
namespace Go.Proofs.YtobojnodohjiaaaGreatDoor
open Go.RowKit
def ofs (q:Rat) (p v:Nat) (b:Bool):Prop:=(b=true∧Nat.gcd q.den p=1∧v<p∧(p:Int) ∣ q.num - (v:Int)*((q.den:Nat):Int))∨(b=false∧v=0∧Nat.gcd q.den p≠1)
theorem qS5 (a p:Nat) (hp:0<p):∃ v b,invs a p v b:=by
 by_cases h:Nat.gcd a p=1
 ·have h1:=(qi9 _ ((a:Nat):Int) ((p:Nat):Int) (Nat.le_refl _)).2
  rw [crg,h] at h1
  generalize (egcd ((a:Nat):Int) ((p:Nat):Int)).2.1=x at *
  generalize (egcd ((a:Nat):Int) ((p:Nat):Int)).2.2=y at *
  have e1:=Int.emod_nonneg x (show ((p:Nat):Int)≠0 by omega)
  have e2:=Int.emod_lt_of_pos x (show (0:Int)<((p:Nat):Int) by omega)
  have e3:=Int.mul_ediv_add_emod x ((p:Nat):Int)
  obtain ⟨z,hz⟩:∃ z:Nat,x % ((p:Nat):Int)=(z:Int):=⟨(x % ((p:Nat):Int)).toNat,by omega⟩
  refine ⟨z,true,.inl ⟨rfl,by omega,?_⟩⟩
  rw [hz] at e3
  generalize x / ((p:Nat):Int)=k at *
  exact ⟨-(y+(a:Int)*k),by grind⟩
 ·exact ⟨0,false,.inr ⟨rfl,rfl,h⟩⟩
theorem qr8 (d p:Nat):Nat.gcd (d % p) p=Nat.gcd d p:=by rw [← Nat.gcd_rec,Nat.gcd_comm]
theorem xy1 (q:Rat) (p:Nat) (hp:0<p):∃ v b,ofs q p v b:=by
 obtain ⟨i,b,h⟩:=qS5 q.den p hp
 rcases h with ⟨rfl,h1,h2⟩|⟨rfl,h1,h2⟩
 ·have e1:=Int.emod_nonneg (q.num*(i:Int)) (show ((p:Nat):Int)≠0 by omega)
  have e2:=Int.emod_lt_of_pos (q.num*(i:Int)) (show (0:Int)<((p:Nat):Int) by omega)
  have e3:=Int.mul_ediv_add_emod (q.num*(i:Int)) ((p:Nat):Int)
  obtain ⟨z,hz⟩:∃ z:Nat,(q.num*(i:Int)) % ((p:Nat):Int)=(z:Int):=⟨((q.num*(i:Int)) % ((p:Nat):Int)).toNat,by omega⟩
  refine ⟨z,true,.inl ⟨rfl,qw2 h2,by omega,?_⟩⟩
  rw [hz] at e3
  obtain ⟨k,hk⟩:=h2
  generalize (q.num*(i:Int)) / ((p:Nat):Int)=j at *
  exact ⟨((q.den:Nat):Int)*j - q.num*k,by grind⟩
 ·exact ⟨0,false,.inr ⟨rfl,rfl,h2⟩⟩
theorem xo4 {q:Rat} {p v n i d:Nat} (h:ofs q p v true) (hp:0<p) (hn:Int.natAbs (q.num % ((p:Nat):Int))=n) (hd:Int.natAbs (((q.den:Nat):Int) % ((p:Nat):Int))=d) (hi:(p:Int) ∣ (d:Int)*(i:Int) - 1):(n*i) % p=v:=by
 rcases h with ⟨_,hg,hv,hz⟩|⟨h,_⟩
 ·have a1:=Int.emod_nonneg q.num (show ((p:Nat):Int)≠0 by omega)
  have a2:=Int.mul_ediv_add_emod q.num ((p:Nat):Int)
  have b1:=Int.emod_nonneg ((q.den:Nat):Int) (show ((p:Nat):Int)≠0 by omega)
  have b2:=Int.mul_ediv_add_emod ((q.den:Nat):Int) ((p:Nat):Int)
  rw [show q.num % ((p:Nat):Int)=((n:Nat):Int) by omega] at a2
  rw [show ((q.den:Nat):Int) % ((p:Nat):Int)=((d:Nat):Int) by omega] at b2
  have c1:=Nat.mod_lt (n*i) hp
  have c2:=Nat.div_add_mod (n*i) p
  have e:(((n*i) % p:Nat):Int)=((v:Nat):Int):=by
   refine qw6 (L:=(p:Int)) om om om om ?_
   obtain ⟨k1,h1⟩:=hz
   obtain ⟨k2,h2⟩:=hi
   have c3:((p:Nat):Int)*(((n*i) / p:Nat):Int)+(((n*i) % p:Nat):Int)=((n:Nat):Int)*((i:Nat):Int):=by rw [← Int.natCast_mul,← Int.natCast_add,c2,Int.natCast_mul]
   generalize (((n*i) % p:Nat):Int)=r at *
   generalize (((n*i) / p:Nat):Int)=s at *
   generalize q.num / ((p:Nat):Int)=j1 at *
   generalize ((q.den:Nat):Int) / ((p:Nat):Int)=j2 at *
   exact ⟨-s+(i:Int)*k1 - (i:Int)*j1+(v:Int)*(i:Int)*j2+(v:Int)*k2,by grind⟩
  omega
 ·cases h
def prm (q:Rat) (F:Nat→Int × Nat) (n:Nat):Prop:=∀ j,j<n→0<(F j).2∧(F j).2<4294967296∧0≤(F j).1∧(F j).1<((F j).2:Int)∧Nat.gcd q.den (F j).2=1∧((F j).2:Int) ∣ q.num - (F j).1*((q.den:Nat):Int)
theorem xb7 {d a b:Nat} (ha:Nat.gcd d a=1) (hb:Nat.gcd d b=1):Nat.gcd d (Nat.lcm a b)=1:=by
 have h1:Nat.gcd d (Nat.lcm a b) ∣ Nat.gcd d (a*b):=Nat.gcd_dvd_gcd_of_dvd_right d (by rw [Nat.lcm];exact Nat.div_dvd_of_dvd (Nat.dvd_trans (Nat.gcd_dvd_left a b) (Nat.dvd_mul_right a b)))
 have h2:Nat.gcd d (a*b)=1:=Nat.Coprime.mul_right ha hb
 rw [h2] at h1
 exact Nat.dvd_one.1 h1
theorem qP_ {d:Nat} {f:Nat→Int × Nat}:∀ {k:Nat} {R:Int} {M:Nat},(∀ i,i<k→Nat.gcd d (f i).2=1)→chn f k=some (R,M)→Nat.gcd d M=1
 | 0,R,M,_,h=>by rw [chn] at h;injection h with h;injection h with h1 h2;subst h2;exact Nat.gcd_one_right d
 | k+1,R,M,hp,h=>by
  rw [chn] at h
  cases hk:chn f k with
  | none=>rw [hk] at h;cases h
  | some p =>
   obtain ⟨R1,M1⟩:=p
   rw [hk] at h
   have h:(if ((f k).1 - R1) % (egcd (M1:Int) ((f k).2:Int)).1=0 then some (crt R1 M1 (f k).1 (f k).2,crm M1 (f k).2) else none)=some (R,M):=h
   split at h
   ·injection h with h;injection h with h1 h2
    rw [← h2,qr4]
    exact xb7 (qP_ (fun i hi=>hp i (Nat.lt_succ_of_lt hi)) hk) (hp k (Nat.lt_succ_self k))
   ·cases h
theorem qt9 {c:Nat} {f:Nat→Int × Nat}:∀ {k:Nat} {R:Int} {M:Nat},(∀ i,i<k→wl (f i).2≤c)→chn f k=some (R,M)→wl M≤1+c*k
 | 0,R,M,_,h=>by rw [chn] at h;injection h with h;injection h with h1 h2;subst h2;exact qa6 (by decide)
 | k+1,R,M,hp,h=>by
  rw [chn] at h
  cases hk:chn f k with
  | none=>rw [hk] at h;cases h
  | some p =>
   obtain ⟨R1,M1⟩:=p
   rw [hk] at h
   have h:(if ((f k).1 - R1) % (egcd (M1:Int) ((f k).2:Int)).1=0 then some (crt R1 M1 (f k).1 (f k).2,crm M1 (f k).2) else none)=some (R,M):=h
   split at h
   ·injection h with h;injection h with h1 h2
    have e1:=qt9 (fun i hi=>hp i (Nat.lt_succ_of_lt hi)) hk
    have e2:=xk9 (M1:=M1) (M2:=(f k).2)
    have e3:=hp k (Nat.lt_succ_self k)
    rw [← h2,Nat.mul_succ]
    omega
   ·cases h
theorem xb6 {q:Rat} {L:Nat} (hg:Nat.gcd q.den L=1):∃ A:Int,∀ (p:Nat) (r:Int),p ∣ L→(p:Int) ∣ q.num - r*((q.den:Nat):Int)→(p:Int) ∣ A - r:=by
 have h1:=(qi9 _ ((q.den:Nat):Int) ((L:Nat):Int) (Nat.le_refl _)).2
 rw [crg,hg] at h1
 generalize (egcd ((q.den:Nat):Int) ((L:Nat):Int)).2.1=x at *
 generalize (egcd ((q.den:Nat):Int) ((L:Nat):Int)).2.2=y at *
 refine ⟨q.num*x,fun p r hp hr=>?_⟩
 obtain ⟨j,hj⟩:=Int.ofNat_dvd.2 hp
 obtain ⟨k,hk⟩:=hr
 rw [hj] at h1
 exact ⟨x*k - r*(j*y),by grind⟩
def prd (F:Nat→Int × Nat):Nat→Nat
 | 0=>1
 | k+1=>prd F k*(F k).2
theorem qV0 (F:Nat→Int × Nat):∀ (k i:Nat),i<k→(F i).2 ∣ prd F k
 | k+1,i,h=>by
  rcases Nat.lt_succ_iff_lt_or_eq.1 h with h|rfl
  ·exact Nat.dvd_trans (qV0 F k i h) (Nat.dvd_mul_right _ _)
  ·exact Nat.dvd_mul_left _ _
theorem qU_ {d:Nat} {F:Nat→Int × Nat}:∀ {k:Nat},(∀ i,i<k→Nat.gcd d (F i).2=1)→Nat.gcd d (prd F k)=1
 | 0,_=>Nat.gcd_one_right d
 | k+1,h=>Nat.Coprime.mul_right (qU_ (fun i hi=>h i (Nat.lt_succ_of_lt hi))) (h k (Nat.lt_succ_self k))
theorem xp3 {q:Rat} {F:Nat→Int × Nat} {n:Nat} (h:prm q F n):∃ R M,chv F n R M 0∧rfit q R M∧wl M≤1+1*n∧wl R.natAbs≤1+1*n:=by
 have hp:∀ i,i<n→0<(F i).2:=fun i hi=>(h i hi).1
 obtain ⟨A,hA⟩:=xb6 (qU_ (fun i hi=>(h i hi).2.2.2.2.1):Nat.gcd q.den (prd F n)=1)
 obtain ⟨M,hc,hM⟩:=qy2 hp (fun i hi=>hA _ _ (qV0 F n i hi) (h i hi).2.2.2.2.2)
 have e1:=qt9 (c:=1) (fun i hi=>qa6 (h i hi).2.1) hc
 have e2:=Int.emod_nonneg A (show ((M:Nat):Int)≠0 by omega)
 have e3:=Int.emod_lt_of_pos A (show (0:Int)<((M:Nat):Int) by omega)
 have e4:=(qf3 hp hc).2.2.2
 refine ⟨_,M,qg1 hp hc,⟨by omega,qP_ (fun i hi=>(h i hi).2.2.2.2.1) hc,Int.emod_eq_zero_of_dvd ?_⟩,e1,Nat.le_trans (qa4 om) e1⟩
 refine qr2 hc _ fun i hi=>?_
 obtain ⟨k1,h1⟩:=(e4 i hi).1
 obtain ⟨k2,h2⟩:=(h i hi).2.2.2.2.2
 exact ⟨k2 - ((q.den:Nat):Int)*k1,by grind⟩
theorem xp2 {q:Rat} {F:Nat→Int × Nat} {n p v:Nat} (h:prm q F n) (hp:0<p) (hp2:p<4294967296) (ho:ofs q p v true):prm q (fun j=>if j=n then ((v:Int),p) else F j) (n+1):=by
 rcases ho with ⟨_,h1,h2,h3⟩|⟨h,_⟩
 ·intro j hj
  by_cases e:j=n
  ·simp only [e,if_true]
   exact ⟨hp,hp2,by omega,by omega,h1,h3⟩
  ·simp only [if_neg e]
   exact h j om
 ·cases h
theorem xf4 {F:Nat→Int × Nat} {n:Nat} (x:Int × Nat):rcs (fun j=>if j=n then x else F j) (n+1)=rcs F n ++ rcl x:=by
 rw [rcs,if_pos rfl,qV8 _ F n (fun i hi=>if_neg om)]
end Go.Proofs.YtobojnodohjiaaaGreatDoor
