
/- plain facts of the Chinese remainder theorem. No condition but those stated. -/
import Derived.Test.YtobojnodohjiaaaGreatDoorIntE
set_option linter.unusedVariables false
set_option linter.unusedSimpArgs false
namespace Go.Proofs.YtobojnodohjiaaaGreatDoor
open Go.RowKit
def crm (M1 M2:Nat):Nat:=M1*(M2 / (egcd (M1:Int) (M2:Int)).1.natAbs)
def crt (R1:Int) (M1:Nat) (R2:Int) (M2:Nat):Int:=(R1+(M1:Int)*((egcd (M1:Int) (M2:Int)).2.1*((R2 - R1) / (egcd (M1:Int) (M2:Int)).1))) % ((crm M1 M2:Nat):Int)
theorem crg (M1 M2:Nat):(egcd (M1:Int) (M2:Int)).1=((Nat.gcd M1 M2:Nat):Int):=by
 rw [(qi9 _ (M1:Int) (M2:Int) (Nat.le_refl _)).1,Int.natAbs_natCast,Int.natAbs_natCast]
theorem qQ4 {M1 M2:Nat} (h:0<M1):0<(egcd (M1:Int) (M2:Int)).1:=by
 rw [crg];have:=Nat.gcd_pos_of_pos_left M2 h;omega
theorem qr4 (M1 M2:Nat):crm M1 M2=Nat.lcm M1 M2:=by
 unfold crm
 rw [crg,Int.natAbs_natCast,Nat.lcm,Nat.mul_div_assoc _ (Nat.gcd_dvd_right M1 M2)]
theorem qv5 {M1 M2:Nat} (h1:0<M1) (h2:0<M2):0<crm M1 M2:=by rw [qr4];exact Nat.lcm_pos h1 h2
theorem qG5 (M1 M2:Nat):(M1:Int) ∣ ((crm M1 M2:Nat):Int):=by rw [qr4];exact Int.ofNat_dvd.2 (Nat.dvd_lcm_left _ _)
theorem qG6 (M1 M2:Nat):(M2:Int) ∣ ((crm M1 M2:Nat):Int):=by rw [qr4];exact Int.ofNat_dvd.2 (Nat.dvd_lcm_right _ _)
theorem xi1 {R1 R2:Int} {M1 M2:Nat} (h1:0<M1) (h2:0<M2):0≤crt R1 M1 R2 M2∧crt R1 M1 R2 M2<((crm M1 M2:Nat):Int):=by
 have:=qv5 h1 h2
 exact ⟨Int.emod_nonneg _ om,Int.emod_lt_of_pos _ om⟩
theorem xh_ (R1 R2:Int) (M1 M2:Nat):(M1:Int) ∣ crt R1 M1 R2 M2 - R1:=by
 unfold crt
 generalize (egcd (M1:Int) (M2:Int)).2.1*((R2 - R1) / (egcd (M1:Int) (M2:Int)).1)=t
 have e:=Int.mul_ediv_add_emod (R1+M1*t) ((crm M1 M2:Nat):Int)
 obtain ⟨k,hk⟩:=qG5 M1 M2
 generalize (R1+M1*t) % ((crm M1 M2:Nat):Int)=r at *
 generalize (R1+M1*t) / ((crm M1 M2:Nat):Int)=s at *
 rw [hk] at e
 exact ⟨t - k*s,by grind⟩
theorem xi0 {R1 R2:Int} {M1 M2:Nat} (h:(R2 - R1) % (egcd (M1:Int) (M2:Int)).1=0):(M2:Int) ∣ crt R1 M1 R2 M2 - R2:=by
 unfold crt
 have hb:=(qi9 _ (M1:Int) (M2:Int) (Nat.le_refl _)).2
 have hq:=Int.mul_ediv_add_emod (R2 - R1) (egcd (M1:Int) (M2:Int)).1
 rw [h] at hq
 generalize (egcd (M1:Int) (M2:Int)).2.1=x at *
 generalize (egcd (M1:Int) (M2:Int)).2.2=y at *
 generalize (R2 - R1) / (egcd (M1:Int) (M2:Int)).1=q at *
 generalize (egcd (M1:Int) (M2:Int)).1=g at *
 have e:=Int.mul_ediv_add_emod (R1+M1*(x*q)) ((crm M1 M2:Nat):Int)
 obtain ⟨k,hk⟩:=qG6 M1 M2
 generalize (R1+M1*(x*q)) % ((crm M1 M2:Nat):Int)=r at *
 generalize (R1+M1*(x*q)) / ((crm M1 M2:Nat):Int)=s at *
 rw [hk] at e
 refine ⟨-(y*q) - k*s,?_⟩
 have hb2:(M1:Int)*x=g - M2*y:=by omega
 have e3:(M1:Int)*(x*q)=g*q - M2*(y*q):=by rw [← Int.mul_assoc,hb2];grind
 rw [e3] at e
 grind
theorem qQ5 {R1 R2 A:Int} {M1 M2:Nat} (d1:(M1:Int) ∣ A - R1) (d2:(M2:Int) ∣ A - R2):(R2 - R1) % (egcd (M1:Int) (M2:Int)).1=0:=by
 rw [crg]
 refine Int.emod_eq_zero_of_dvd ?_
 have h1:=Int.dvd_trans (Int.ofNat_dvd.2 (Nat.gcd_dvd_left M1 M2)) d1
 have h2:=Int.dvd_trans (Int.ofNat_dvd.2 (Nat.gcd_dvd_right M1 M2)) d2
 have:=Int.dvd_sub h1 h2
 rwa [show A - R1 - (A - R2)=R2 - R1 by omega] at this
theorem qB9 {M1 M2:Nat} {z:Int} (d1:(M1:Int) ∣ z) (d2:(M2:Int) ∣ z):((crm M1 M2:Nat):Int) ∣ z:=by
 rw [qr4]
 exact Int.ofNat_dvd_left.2 (Nat.lcm_dvd (Int.ofNat_dvd_left.1 d1) (Int.ofNat_dvd_left.1 d2))
theorem qw6 {L A B:Int} (ha0:0≤A) (ha:A<L) (hb0:0≤B) (hb:B<L) (h:L ∣ A - B):A=B:=by
 have h1:=Int.emod_emod_of_dvd A (Int.dvd_refl L)
 have h2:=(Int.emod_eq_emod_iff_emod_sub_eq_zero).2 (Int.emod_eq_zero_of_dvd h)
 rwa [Int.emod_eq_of_lt ha0 ha,Int.emod_eq_of_lt hb0 hb] at h2
theorem xu_ {R1 R2 A:Int} {M1 M2:Nat} (h1:0<M1) (h2:0<M2) (hA0:0≤A) (hA:A<((crm M1 M2:Nat):Int)) (d1:(M1:Int) ∣ A - R1) (d2:(M2:Int) ∣ A - R2):crt R1 M1 R2 M2=A:=by
 obtain ⟨c1,c2⟩:=xi1 (R1:=R1) (R2:=R2) h1 h2
 refine qw6 c1 c2 hA0 hA (qB9 ?_ ?_)
 ·have:=Int.dvd_sub (xh_ R1 R2 M1 M2) d1
  rwa [show crt R1 M1 R2 M2 - R1 - (A - R1)=crt R1 M1 R2 M2 - A by omega] at this
 ·have:=Int.dvd_sub (xi0 (qQ5 d1 d2)) d2
  rwa [show crt R1 M1 R2 M2 - R2 - (A - R2)=crt R1 M1 R2 M2 - A by omega] at this
def chn (f:Nat→Int × Nat):Nat→Option (Int × Nat)
 | 0=>some (0,1)
 | k+1=>(chn f k).bind fun p=>if ((f k).1 - p.1) % (egcd (p.2:Int) ((f k).2:Int)).1=0 then some (crt p.1 p.2 (f k).1 (f k).2,crm p.2 (f k).2) else none
theorem qZ_ {f:Nat→Int × Nat} {k:Nat} (h:chn f k=none) (j:Nat):chn f (k+j)=none:=by
 induction j with
 | zero=>exact h
 | succ j ih=>rw [← Nat.add_assoc,chn,ih];rfl
theorem qG4 {f:Nat→Int × Nat} {k:Nat} {R:Int} {M:Nat} (h:chn f k=some (R,M)) (hk:((f k).1 - R) % (egcd (M:Int) ((f k).2:Int)).1=0):chn f (k+1)=some (crt R M (f k).1 (f k).2,crm M (f k).2):=by
 rw [chn,h];exact if_pos hk
theorem xa0 {f:Nat→Int × Nat} {k:Nat} {R:Int} {M:Nat} (h:chn f k=some (R,M)) (hk:¬ ((f k).1 - R) % (egcd (M:Int) ((f k).2:Int)).1=0):chn f (k+1)=none:=by
 rw [chn,h];exact if_neg hk
theorem qf3 {f:Nat→Int × Nat}:∀ {k:Nat} {R:Int} {M:Nat},(∀ i,i<k→0<(f i).2)→chn f k=some (R,M)→0<M∧0≤R∧R<(M:Int)∧∀ i,i<k→((f i).2:Int) ∣ R - (f i).1∧(f i).2 ∣ M
 | 0,R,M,_,h=>by
  rw [chn] at h;injection h with h;injection h with h1 h2;subst h1 h2
  exact ⟨by decide,by decide,by decide,fun i hi=>absurd hi (Nat.not_lt_zero _)⟩
 | k+1,R,M,hp,h=>by
  rw [chn] at h
  cases hk:chn f k with
  | none=>rw [hk] at h;cases h
  | some p =>
   obtain ⟨R1,M1⟩:=p
   rw [hk] at h
   have h:(if ((f k).1 - R1) % (egcd (M1:Int) ((f k).2:Int)).1=0 then some (crt R1 M1 (f k).1 (f k).2,crm M1 (f k).2) else none)=some (R,M):=h
   split at h
   ·rename_i hc
    injection h with h;injection h with h1 h2
    obtain ⟨a1,a2,a3,a4⟩:=qf3 (fun i hi=>hp i (Nat.lt_succ_of_lt hi)) hk
    have p2:=hp k (Nat.lt_succ_self k)
    subst h1 h2
    obtain ⟨c1,c2⟩:=xi1 (R1:=R1) (R2:=(f k).1) a1 p2
    refine ⟨qv5 a1 p2,c1,c2,fun i hi=>?_⟩
    rcases Nat.lt_succ_iff_lt_or_eq.1 hi with hi|rfl
    ·obtain ⟨b1,b2⟩:=a4 i hi
     have hd:((f i).2:Int) ∣ (M1:Int):=Int.ofNat_dvd.2 b2
     have e:=Int.dvd_add (Int.dvd_trans hd (xh_ R1 (f k).1 M1 (f k).2)) b1
     exact ⟨by rwa [show crt R1 M1 (f k).1 (f k).2 - R1+(R1 - (f i).1)=crt R1 M1 (f k).1 (f k).2 - (f i).1 by omega] at e,Nat.dvd_trans b2 (Int.ofNat_dvd.1 (qG5 _ _))⟩
    ·exact ⟨xi0 hc,Int.ofNat_dvd.1 (qG6 _ _)⟩
   ·cases h
theorem qr2 {f:Nat→Int × Nat}:∀ {k:Nat} {R:Int} {M:Nat},chn f k=some (R,M)→∀ z:Int,(∀ i,i<k→((f i).2:Int) ∣ z)→(M:Int) ∣ z
 | 0,R,M,h,z,_=>by
  rw [chn] at h;injection h with h;injection h with h1 h2;subst h1 h2;exact Int.one_dvd z
 | k+1,R,M,h,z,hz=>by
  rw [chn] at h
  cases hk:chn f k with
  | none=>rw [hk] at h;cases h
  | some p =>
   obtain ⟨R1,M1⟩:=p
   rw [hk] at h
   have h:(if ((f k).1 - R1) % (egcd (M1:Int) ((f k).2:Int)).1=0 then some (crt R1 M1 (f k).1 (f k).2,crm M1 (f k).2) else none)=some (R,M):=h
   split at h
   ·injection h with h;injection h with h1 h2
    subst h1 h2
    exact qB9 (qr2 hk z fun i hi=>hz i (Nat.lt_succ_of_lt hi)) (hz k (Nat.lt_succ_self k))
   ·cases h
theorem qy2 {f:Nat→Int × Nat} {A:Int}:∀ {k:Nat},(∀ i,i<k→0<(f i).2)→(∀ i,i<k→((f i).2:Int) ∣ A - (f i).1)→∃ M:Nat,chn f k=some (A % (M:Int),M)∧0<M
 | 0,_,_=>⟨1,by rw [chn];simp,by decide⟩
 | k+1,hp,hd=>by
  obtain ⟨M,h,hM⟩:=qy2 (k:=k) (fun i hi=>hp i (Nat.lt_succ_of_lt hi)) (fun i hi=>hd i (Nat.lt_succ_of_lt hi))
  have p2:=hp k (Nat.lt_succ_self k)
  have d2:=hd k (Nat.lt_succ_self k)
  have d1:(M:Int) ∣ A - A % (M:Int):=by
   have:=Int.mul_ediv_add_emod A M
   exact ⟨A / M,by omega⟩
  have hc:=qQ5 d1 d2
  have hpos:=qv5 hM p2
  have dL:((crm M (f k).2:Nat):Int) ∣ A % ((crm M (f k).2:Nat):Int) - A:=by
   have:=Int.mul_ediv_add_emod A ((crm M (f k).2:Nat):Int)
   exact ⟨-(A / ((crm M (f k).2:Nat):Int)),by rw [Int.mul_neg];omega⟩
  refine ⟨crm M (f k).2,?_,hpos⟩
  rw [qG4 h hc,xu_ hM p2 (Int.emod_nonneg _ om) (Int.emod_lt_of_pos _ om) ?_ ?_]
  ·have:=Int.dvd_add (Int.dvd_trans (qG5 M (f k).2) dL) d1
   rwa [show A % ((crm M (f k).2:Nat):Int) - A+(A - A % (M:Int))=A % ((crm M (f k).2:Nat):Int) - A % (M:Int) by omega] at this
  ·have:=Int.dvd_add (Int.dvd_trans (qG6 M (f k).2) dL) d2
   rwa [show A % ((crm M (f k).2:Nat):Int) - A+(A - (f k).1)=A % ((crm M (f k).2:Nat):Int) - (f k).1 by omega] at this
def chv (f:Nat→Int × Nat) (n:Nat) (R:Int) (M:Nat) (c:Int):Prop:=((∃ i,i<n∧(f i).2=0)→(0:Int)=R∧0=M∧(5:Int)=c)∧((∀ i,i<n→0<(f i).2)→(chn f n=none→(0:Int)=R∧0=M∧(6:Int)=c)∧∀ R' M',chn f n=some (R',M')→R'=R∧M'=M∧(0:Int)=c)
theorem qv4 {f:Nat→Int × Nat} {n:Nat} (hp:∀ i,i<n→0<(f i).2) (h:chn f n=none):chv f n 0 0 6 :=
 ⟨fun ⟨i,hi,h0⟩=>by have:=hp i hi;omega,fun _=>⟨fun _=>⟨rfl,rfl,rfl⟩,fun R' M' h2=>by rw [h] at h2;cases h2⟩⟩
theorem qg1 {f:Nat→Int × Nat} {n:Nat} {R:Int} {M:Nat} (hp:∀ i,i<n→0<(f i).2) (h:chn f n=some (R,M)):chv f n R M 0 :=
 ⟨fun ⟨i,hi,h0⟩=>by have:=hp i hi;omega,fun _=>⟨fun h2=>(by rw [h] at h2;cases h2),fun R' M' h2=>by rw [h] at h2;injection h2 with h2;injection h2 with e1 e2;exact ⟨e1.symm,e2.symm,rfl⟩⟩⟩
theorem xk9 {M1 M2:Nat}:wl (crm M1 M2)≤wl M1+wl M2:=by
 unfold crm
 have h1:=qf1 M1 (M2 / (egcd (M1:Int) (M2:Int)).1.natAbs)
 have h2:=qa4 (Nat.div_le_self M2 (egcd (M1:Int) (M2:Int)).1.natAbs)
 omega
end Go.Proofs.YtobojnodohjiaaaGreatDoor
