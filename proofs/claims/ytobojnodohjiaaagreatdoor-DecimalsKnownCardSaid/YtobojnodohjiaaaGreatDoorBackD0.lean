
/- fracs.Text in z-form. -/
import Derived.Test.YtobojnodohjiaaaGreatDoorDecR
import Derived.Test.YtobojnodohjiaaaGreatDoorPW
import Derived.Test.YtobojnodohjiaaaGreatDoorPN
import Derived.Test.YtobojnodohjiaaaGreatDoorFieldP
import Derived.Test.YtobojnodohjiaaaGreatDoorDecW
set_option linter.unusedVariables false
set_option linter.unusedSimpArgs false
namespace Go.Proofs.YtobojnodohjiaaaGreatDoor
open Go.RowKit
theorem qH4:∀ (i:Nat) (d:ByteArray),(zpad i d).data.toList=Lib.repeatL [48] i ++ d.data.toList
 | 0,d=>rfl
 | i+1,d=>by
  rw [zpad]
  have e:((⟨#[48]⟩:ByteArray) ++ zpad i d).data.toList=48 :: (zpad i d).data.toList:=by simp
  rw [e,qH4 i d];rfl
theorem qO0:∀ (i:Nat) (l:List UInt8),lv (Lib.repeatL [48] i ++ l)=lv l
 | 0,l=>rfl
 | i+1,l=>by
  have e:Lib.repeatL [48] (i+1) ++ l=48 :: (Lib.repeatL [48] i ++ l):=rfl
  rw [e,qI9,qO0 i l]
  have:(48:UInt8).toNat - 48=0:=by decide
  rw [this];omega
theorem xG7 (k r:Nat):lv (pad k r)=r:=by unfold pad;rw [qO0,qN_]
theorem qr9 (k r:Nat) (hk:0<k) (h:r<10 ^ k):(pad k r).length=k:=by
 unfold pad
 rw [List.length_append,Lib.repeatL_length,Lib.decDigits_length]
 obtain ⟨j,rfl⟩:∃ j,k=j+1:=⟨k - 1,by omega⟩
 have:=qk1 j r h
 simp;omega
theorem qz9:∀ (i:Nat) (c:UInt8),c ∈ Lib.repeatL [48] i→c=48
 | 0,c,h=>by cases h
 | i+1,c,h=>by
  have e:Lib.repeatL [48] (i+1)=48 :: Lib.repeatL [48] i:=rfl
  rw [e] at h
  rcases List.mem_cons.1 h with h|h
  ·exact h
  exact qz9 i c h
theorem xn1 (k r:Nat):∀ c ∈ pad k r,48≤c.toNat∧c.toNat≤57:=by
 intro c hc
 unfold pad at hc
 rcases List.mem_append.1 hc with h|h
 ·rw [qz9 _ c h];decide
 exact qj7 r c h
theorem xj8 (n k:Nat) (hk:0<k):(dig n k).data.toList=Lib.decDigits (n / 10 ^ k) ++ pad k (n % 10 ^ k):=by
 have hp:0<10 ^ k:=Nat.pow_pos (by decide)
 unfold dig
 rw [qH4,qo4,Lib.decDigits_length]
 show Lib.repeatL [48] _ ++ Lib.decDigits n=_
 by_cases h:10 ^ k≤n
 ·have e:=qv8 k n hk h
  have hl:Lib.nDigits n=Lib.nDigits (n / 10 ^ k)+k:=by
   have:=congrArg List.length e
   rwa [List.length_append,Lib.decDigits_length,Lib.decDigits_length,qr9 k _ hk (Nat.mod_lt _ hp)] at this
  have h1:0<Lib.nDigits (n / 10 ^ k):=by
   rw [← Lib.decDigits_length]
   rcases Nat.eq_zero_or_pos (Lib.decDigits (n / 10 ^ k)).length with h|h
   ·exact absurd (List.length_eq_zero_iff.1 h) (qs_ _)
   exact h
  rw [show ((k:Int)+1 - (Lib.nDigits n:Int)).toNat=0 by omega,e]
  rfl
 have hl:n<10 ^ k:=by omega
 obtain ⟨j,rfl⟩:∃ j,k=j+1:=⟨k - 1,by omega⟩
 have h1:=qk1 j n hl
 have e0:Lib.decDigits 0 = [48]:=by rw [qj8 (show (0:Nat)<10 by decide)];rfl
 rw [Nat.div_eq_of_lt hl,Nat.mod_eq_of_lt hl,e0,show (((j+1:Nat):Int)+1 - (Lib.nDigits n:Int)).toNat=(j+1 - Lib.nDigits n)+1 by omega]
 rfl
theorem qA8 (d:ByteArray) (A B:List UInt8) (h:d.data.toList=A ++ B):(d.extract 0 A.length).data.toList=A∧(d.extract A.length d.size).data.toList=B:=by
 have hs:d.size=A.length+B.length:=by
  have:d.data.toList.length=d.size:=by rw [Array.length_toList];rfl
  rw [← this,h,List.length_append]
 constructor
 ·rw [ByteArray.data_extract,Array.toList_extract,h];simp [List.extract]
 rw [ByteArray.data_extract,Array.toList_extract,h,hs];simp [List.extract]
theorem xk4 (d:ByteArray) (A B:List UInt8) (c:UInt8) (h:d.data.toList=A ++ c :: B):(d.extract (A.length+1) d.size).data.toList=B:=by
 have:=(qA8 d (A ++ [c]) B (by rw [h];simp)).2
 simpa using this
theorem qW8 {a b:ByteArray} (h:a.data.toList=b.data.toList):a=b:=by
 cases a;cases b;congr 1;exact Array.toList_inj.1 h
theorem qu2 (z:Int) (k:Nat) (hk:0<k):(dtx z k).data.toList=(if z<0 then [45] else []) ++ (Lib.decDigits (z.natAbs / 10 ^ k) ++ 46 :: pad k (z.natAbs % 10 ^ k)):=by
 have hp:0<10 ^ k:=Nat.pow_pos (by decide)
 have hd:=xj8 z.natAbs k hk
 obtain ⟨d,hde⟩:∃ d,dig z.natAbs k=d:=⟨_,rfl⟩
 have hsz:d.size - k=(Lib.decDigits (z.natAbs / 10 ^ k)).length:=by
  have:d.data.toList.length=d.size:=by rw [Array.length_toList];rfl
  rw [hde] at hd
  rw [hd,List.length_append,qr9 k _ hk (Nat.mod_lt _ hp)] at this
  omega
 unfold dtx wrt
 rw [if_neg om,hde,hsz]
 rw [hde] at hd
 obtain ⟨e1,e2⟩:=qA8 d _ _ hd
 have e3:∀ a b:ByteArray,(a ++ b).data.toList=a.data.toList ++ b.data.toList:=fun a b=>by simp
 rw [e3,e3,e3,e1,e2]
 split <;> simp
theorem qw1 (z:Int):(dtx z 0).data.toList=(if z<0 then [45] else []) ++ Lib.decDigits z.natAbs:=by
 unfold dtx wrt dig
 rw [if_pos rfl,qo4,Lib.decDigits_length]
 have h1:0<Lib.nDigits z.natAbs:=by
  rw [← Lib.decDigits_length]
  rcases Nat.eq_zero_or_pos (Lib.decDigits z.natAbs).length with h|h
  ·exact absurd (List.length_eq_zero_iff.1 h) (qs_ _)
  exact h
 rw [show (((0:Nat):Int)+1 - (Lib.nDigits z.natAbs:Int)).toNat=0 by omega]
 have e3:∀ a b:ByteArray,(a ++ b).data.toList=a.data.toList ++ b.data.toList:=fun a b=>by simp
 rw [e3]
 show _ ++ Lib.decDigits z.natAbs=_
 split <;> rfl
theorem qZ9 (z:Int):dtx z 0=itx z:=qW8 (by rw [qw1,qN8];split <;> rfl)
theorem qA5 (z:Int) (k:Nat) (hk:0<k):(dtx z k).size=(if z<0 then 1 else 0)+(Lib.nDigits (z.natAbs / 10 ^ k)+1+k):=by
 have hp:0<10 ^ k:=Nat.pow_pos (by decide)
 have:(dtx z k).data.toList.length=(dtx z k).size:=by rw [Array.length_toList];rfl
 rw [← this,qu2 z k hk,List.length_append,List.length_append,Lib.decDigits_length,List.length_cons,qr9 k _ hk (Nat.mod_lt _ hp)]
 split <;> simp <;> omega
theorem qE7 {s:ByteArray} {z:Int} {n:Nat} {r:List UInt8} (h:s.data.toList=(if z<0 then [45] else []) ++ (Lib.decDigits n ++ r)):ineg s=decide (z<0)∧(idig s).data.toList=Lib.decDigits n ++ r:=by
 unfold ineg idig Lib.trimPrefix Lib.hasPrefix
 rw [h]
 by_cases hz:z<0
 ·rw [if_pos hz,decide_eq_true hz]
  simp [List.isPrefixOf]
 rw [if_neg hz,decide_eq_false hz]
 obtain ⟨c,l,hc⟩:∃ c l,Lib.decDigits n=c :: l:=by
  rcases hd:Lib.decDigits n with _|⟨c,l⟩
  ·exact absurd hd (qs_ n)
  exact ⟨c,l,rfl⟩
 have h1:=qj7 n c (by rw [hc];exact List.mem_cons_self)
 have h2:(45 == c)=false:=by
  have:¬ (45:UInt8)=c:=fun e=>by rw [← e] at h1;exact absurd h1.1 (by decide)
  simpa using this
 rw [hc]
 simp [List.isPrefixOf,h2]
theorem qN4:∀ (A B:List UInt8) (c:UInt8),(∀ x ∈ A,x≠c)→Lib.indexByte (A ++ c :: B) c=(A.length:Int)
 | [],B,c,_=>by simp [Lib.indexByte]
 | x :: A,B,c,h=>by
  have h1:(x == c)=false:=by simpa using h x List.mem_cons_self
  have ih:=qN4 A B c (fun y hy=>h y (List.mem_cons_of_mem _ hy))
  have h2:((A.length:Int) == -1)=false:=by
   simp
  simp only [List.cons_append,Lib.indexByte,h1,ih,h2,List.length_cons]
  simp
theorem xi7 {t:ByteArray} {A B:List UInt8} (h:t.data.toList=A ++ 46 :: B) (hA:∀ x ∈ A,x≠46):(dup t).data.toList=A∧(ddn t).data.toList=B∧dtwo t=true:=by
 have hi:di t=(A.length:Int):=by unfold di;rw [h];exact qN4 A B 46 hA
 refine ⟨?_,?_,?_⟩
 ·unfold dup;rw [hi,if_pos om]
  exact (qA8 t A (46 :: B) h).1
 ·unfold ddn;rw [hi,if_pos om]
  exact xk4 t A B 46 h
 unfold dtwo;rw [hi];exact decide_eq_true om
theorem qM4 {n:Nat}:∀ x ∈ Lib.decDigits n,x≠46:=fun x hx e=>by
 have:=qj7 n x hx;rw [e] at this;exact absurd this.1 (by decide)
theorem qE6 {s:ByteArray} {c:UInt8} {l:List UInt8} (h:s.data.toList=c :: l) (hd:∀ x ∈ c :: l,48≤x.toNat∧x.toNat≤57) (h0:c.toNat≠48) (hs:s.size≤4096):qi6 s=0∧pnum s=lv (c :: l):=by
 have hl:s.data.toList.length=s.size:=by rw [Array.length_toList];rfl
 have hg:qm2 s:=by
  refine ⟨by rw [← hl,h];simp,fun e=>?_,fun i hi=>?_⟩
  ·exfalso
   apply h0
   have hp:0<s.size:=by rw [← hl,h];simp
   rw [qh2 s 0 hp] at e
   simp only [h] at e
   exact e
  rw [qh2 s i hi]
  exact hd _ (by rw [← h];exact List.getElem_mem _)
 refine ⟨by unfold qi6;rw [if_neg om,if_pos hg],?_⟩
 unfold pnum
 rw [if_pos ⟨hs,hg⟩,xn5,h]
theorem xc9 (z:Int) (k:Nat) (hs:(dtx z k).size≤4000):qg0 (dtx z k)=0∧dnum (dtx z k)=mkRat z (10 ^ k):=by
 have hp:0<10 ^ k:=Nat.pow_pos (by decide)
 have key:qi6 (dA (dtx z k))=0∧pnum (dA (dtx z k))=z.natAbs / 10 ^ k∧qi6 (dO (dtx z k))=0∧pnum (dO (dtx z k))=10 ^ k+z.natAbs % 10 ^ k∧(dB (dtx z k)).size=k∧dM (dtx z k)=false∧ineg (dtx z k)=decide (z<0):=by
  have hz:∀ s:ByteArray,s.size=s.data.toList.length:=fun s=>by rw [Array.length_toList];rfl
  have hO:(dO (dtx z k)).data.toList=49 :: (dB (dtx z k)).data.toList:=by unfold dO;simp
  by_cases hk:k=0
  ·subst hk
   have hl:=qw1 z
   obtain ⟨e1,e2⟩:=qE7 (z:=z) (n:=z.natAbs) (r:=[]) (s:=dtx z 0) (by rw [hl,List.append_nil])
   rw [List.append_nil] at e2
   have hi:di (idig (dtx z 0)) = -1:=by
    rcases qA4 (idig (dtx z 0)) with h|⟨i,h,_⟩
    ·exact h
    unfold di at h
    rw [e2] at h
    exact absurd rfl (qM4 46 (List.mem_of_getElem? (Lib.indexByte_some h).1))
   have eA:dA (dtx z 0)=idig (dtx z 0):=by unfold dA dup;rw [hi,if_neg (by decide)]
   have eB:dB (dtx z 0)=⟨#[]⟩:=by unfold dB ddn;rw [hi,if_neg (by decide)]
   have eA2:dA (dtx z 0)=⟨(Lib.decDigits z.natAbs).toArray⟩:=by rw [eA];exact qW8 (by rw [e2])
   have hn:Lib.nDigits z.natAbs≤4096:=by
    have:=qj_ (dtx z 0)
    rw [hz (idig (dtx z 0)),e2,Lib.decDigits_length] at this
    omega
   obtain ⟨p1,p2⟩:=qO6 z.natAbs hn
   rw [eB] at hO
   obtain ⟨q1,q2⟩:=qE6 (s:=dO (dtx z 0)) (c:=49) (l:=[]) hO (by intro x hx;simp at hx;subst hx;decide) (by decide) (by rw [hz,hO];decide)
   refine ⟨by rw [eA2];exact p2,by rw [eA2,p1,Nat.pow_zero,Nat.div_one],q1,?_,by rw [eB];rfl,?_,e1⟩
   ·rw [q2,Nat.pow_zero,Nat.mod_one];decide
   unfold dM dtwo
   have he:(⟨#[]⟩:ByteArray).toList.isEmpty=true:=by rw [qi7];rfl
   rw [hi,eB,he];decide
  have hl:=qu2 z k om
  obtain ⟨e1,e2⟩:=qE7 (s:=dtx z k) hl
  obtain ⟨c1,c2,c3⟩:=xi7 e2 qM4
  have hn:Lib.nDigits (z.natAbs / 10 ^ k)≤4096:=by
   have:=qA5 z k om;split at this <;> omega
  obtain ⟨p1,p2⟩:=qO6 (z.natAbs / 10 ^ k) hn
  have eA2:dA (dtx z k)=⟨(Lib.decDigits (z.natAbs / 10 ^ k)).toArray⟩:=qW8 (by unfold dA;rw [c1])
  have hB:(dB (dtx z k)).data.toList=pad k (z.natAbs % 10 ^ k):=c2
  have hBs:(dB (dtx z k)).size=k:=by rw [hz,hB,qr9 k _ om (Nat.mod_lt _ hp)]
  rw [hB] at hO
  obtain ⟨q1,q2⟩:=qE6 (s:=dO (dtx z k)) (c:=49) (l:=pad k (z.natAbs % 10 ^ k)) hO (by
   intro x hx
   rcases List.mem_cons.1 hx with h|h
   ·subst h;decide
   exact xn1 _ _ x h) (by decide) (by rw [hz,hO,List.length_cons,← hB,← hz,hBs];have:=qA5 z k om;split at this <;> omega)
  refine ⟨by rw [eA2];exact p2,by rw [eA2,p1],q1,?_,hBs,?_,e1⟩
  ·rw [q2,qI9,xG7,qr9 k _ om (Nat.mod_lt _ hp),show (49:UInt8).toNat - 48=1 from by decide,Nat.one_mul]
  unfold dM
  have hne:(dB (dtx z k)).toList.isEmpty=false:=by rw [qi7];exact decide_eq_false om
  rw [c3,hne];rfl
 obtain ⟨k1,k2,k3,k4,k5,k6,k7⟩:=key
 have I:dK (dtx z k)=z.natAbs:=by
  unfold dK
  rw [k2,k4,k5]
  have:=Nat.div_add_mod z.natAbs (10 ^ k)
  rw [Nat.mul_comm] at this
  omega
 have hc:qg0 (dtx z k)=0:=by
  unfold qg0
  rw [if_neg om,if_neg (fun h=>h k1),if_neg (fun h=>h k3),if_neg (by rw [k6];decide),if_neg]
  rw [I,k7]
  rintro ⟨h1,h2⟩
  have:=of_decide_eq_true h1
  omega
 refine ⟨hc,?_⟩
 unfold dnum
 rw [hc,if_pos rfl,k5]
 congr 1
 unfold dZ
 rw [I,k7]
 by_cases h:z<0
 ·rw [if_pos (decide_eq_true h)];omega
 rw [if_neg (by rw [decide_eq_false h];decide)];omega
theorem xr6 (s:ByteArray):s.data.toList.length=s.size:=by rw [Array.length_toList];rfl
theorem qv5 {s:ByteArray} {P B:List UInt8} {c:UInt8} (h:s.data.toList=P ++ c :: B):byt s P.length=c.toNat∧P.length<s.size:=by
 have hl:=xr6 s
 have h1:P.length<s.size:=by rw [← hl,h];simp
 refine ⟨?_,h1⟩
 rw [qh2 s _ h1]
 simp [h]
theorem xj_ (z:Int) (k:Nat):∃ m r,(dtx z k).data.toList=(if z<0 then [45] else []) ++ (Lib.decDigits m ++ r):=by
 by_cases hk:k=0
 ·subst hk;exact ⟨z.natAbs,[],by rw [qw1,List.append_nil]⟩
 exact ⟨_,_,qu2 z k om⟩
theorem qN0 (z:Int) (k:Nat):0<(dtx z k).size∧((z<0∧byt (dtx z k) 0=45)∨(¬ z<0∧byt (dtx z k) 0≠45)):=by
 obtain ⟨m,r,h⟩:=xj_ z k
 by_cases hz:z<0
 ·rw [if_pos hz] at h
  obtain ⟨e1,e2⟩:=qv5 (P:=[]) (c:=45) (B:=Lib.decDigits m ++ r) h
  exact ⟨e2,.inl ⟨hz,e1⟩⟩
 rw [if_neg hz] at h
 obtain ⟨c,l,hc⟩:∃ c l,Lib.decDigits m=c :: l:=by
  rcases hd:Lib.decDigits m with _|⟨c,l⟩
  ·exact absurd hd (qs_ m)
  exact ⟨c,l,rfl⟩
 rw [hc] at h
 obtain ⟨e1,e2⟩:=qv5 (P:=[]) (c:=c) (B:=l ++ r) h
 refine ⟨e2,.inr ⟨hz,?_⟩⟩
 have h1:=qj7 m c (by rw [hc];exact List.mem_cons_self)
 rw [show (0:Nat)=([]:List UInt8).length from rfl,e1]
 omega
theorem xG9 (z:Int) (k:Nat):mkRat z (10 ^ k)<0 ↔ z<0:=by
 have hp:0<10 ^ k:=Nat.pow_pos (by decide)
 rw [← xe7,qG4 z _ hp]
 by_cases h0:z=0
 ·rw [if_pos h0];omega
 rw [if_neg h0]
 by_cases h:z<0
 ·rw [if_pos h];omega
 rw [if_neg h];omega
theorem qW9 (z:Int) (k:Nat):(mkRat z (10 ^ k)<0∧byt (dtx z k) 0=45)∨(¬ mkRat z (10 ^ k)<0∧byt (dtx z k) 0≠45):=by
 rw [xG9];exact (qN0 z k).2
theorem qQ6 (z:Int):(mkRat z (10 ^ 0)).den=1∧ftx (mkRat z (10 ^ 0))=dtx z 0:=by
 rw [Nat.pow_zero,xs2]
 refine ⟨rfl,?_⟩
 unfold ftx
 rw [if_pos (show ((z:Rat)).den=1 from rfl),qZ9]
 rfl
theorem qQ5 (z:Int) (k:Nat) (hk:0<k):k+1<(dtx z k).size∧byt (dtx z k) ((dtx z k).size - k - 1)=46:=by
 have hp:0<10 ^ k:=Nat.pow_pos (by decide)
 have h:=qu2 z k hk
 rw [← List.append_assoc] at h
 obtain ⟨e1,e2⟩:=qv5 h
 have hl:=xr6 (dtx z k)
 rw [h,List.length_append,List.length_cons,qr9 k _ hk (Nat.mod_lt _ hp)] at hl
 have hd:0<((if z<0 then ([45]:List UInt8) else []) ++ Lib.decDigits (z.natAbs / 10 ^ k)).length:=by
  rw [List.length_append]
  rcases Nat.eq_zero_or_pos (Lib.decDigits (z.natAbs / 10 ^ k)).length with h|h
  ·exact absurd (List.length_eq_zero_iff.1 h) (qs_ _)
  omega
 refine ⟨by omega,?_⟩
 rw [show (dtx z k).size - k - 1=((if z<0 then ([45]:List UInt8) else []) ++ Lib.decDigits (z.natAbs / 10 ^ k)).length by omega,e1]
 decide
theorem qZ_ {z:Int} {k:Nat} (hz:wl z.natAbs≤30) (hk:k≤100):(dtx z k).size≤4000:=by
 have h1:=qT2 z.natAbs
 have h2:=qf4 z.natAbs
 by_cases h0:k=0
 ·subst h0
  rw [qZ9,qB4]
  split <;> omega
 rw [qA5 z k om]
 have h3:=qF2 (Nat.div_le_self z.natAbs (10 ^ k))
 split <;> omega
end Go.Proofs.YtobojnodohjiaaaGreatDoor

set_option linter.unusedVariables false
set_option linter.unusedSimpArgs false
namespace Go.Proofs.YtobojnodohjiaaaGreatDoor
open Go.RowKit
attribute [local go_sem ↓] Go.wp_at_zero Go.wp_at_succ
theorem xh8 (q:Rat) (s:ByteArray) (w:World) (h:ftx q=s) (hs:sz q≤100000) (HT:Hid (Tab w)) :
  CB 153 #[(Value.agg #[.int .u64 (lo q.num.natAbs),.string (bg q.num.natAbs),.bool (q.num<0),.int .u64 (lo (q.den - 1)),.string (bg (q.den - 1))])] w (.string s):=h ▸ qw3 q w hs HT
end Go.Proofs.YtobojnodohjiaaaGreatDoor
