/- A pack of texts: NatZ, LawN, LawN2, LawW. No condition but those stated. -/
import Derived.Test.YtaflakcemiilaaaGreatDoorPG
import Derived.Test.YtaflakcemiilaaaGreatDoorPC
import Derived.Test.YtaflakcemiilaaaGreatDoorPD
import Derived.Test.YtaflakcemiilaaaGreatDoorPR
import Derived.Test.YtaflakcemiilaaaGreatDoorPE
import Derived.Test.YtaflakcemiilaaaGreatDoorPP
import Derived.Test.YtaflakcemiilaaaGreatDoorPA
set_option linter.unusedVariables false
set_option linter.unusedSimpArgs false
namespace Go.Proofs.YtaflakcemiilaaaGreatDoor
section
open Go.RowKit
theorem xa6 (k:Nat):bp k≤tp (3*k):=by
 unfold bp tp
 rw [Nat.pow_mul]
 exact Nat.pow_le_pow_left (by decide) k
theorem qE0 (n:Nat):tw n≤3*wl n:=qg6.2 (Nat.lt_of_lt_of_le (qb8 n) (xa6 _))
def upv (f:Nat→Nat) (k j:Nat):Nat:=vl (fun t=>f (j+t)) (k - j)
theorem xs8 (f:Nat→Nat) (k:Nat):upv f k 0=vl f k:=by
 unfold upv
 exact qf2 fun i _=>by rw [Nat.zero_add]
theorem qZ1 (f:Nat→Nat) (k:Nat):upv f k k=0:=by unfold upv;rw [Nat.sub_self];rfl
theorem qY3 (f:Nat→Nat) {k j:Nat} (h:j<k):upv f k j=upv f k (j+1)*4294967296+f j:=by
 unfold upv
 obtain ⟨m,hm⟩:∃ m,k - j=m+1:=⟨k - j - 1,by omega⟩
 rw [hm,qW0,show k - (j+1)=m by omega,Nat.add_zero]
 have e:vl (fun i=>f (j+(i+1))) m=vl (fun t=>f (j+1+t)) m:=qf2 fun i _=>by rw [show j+(i+1)=j+1+i by omega]
 rw [e]
 omega
theorem xB6 {f:Nat→Nat} {k:Nat} (hf:∀ i,i<k→f i<4294967296) (j:Nat):wl (upv f k j)≤k:=by
 refine Nat.le_trans (qa4.2 (qf7 (fun i hi=>hf (j+i) (by omega)))) (by omega)
theorem Rn.nil (w:World):Rn w (.slice none 0 0) 0:=by unfold Rn;rw [qk4];exact Dr.nil _ _ _
def Wa (w:World) (v:Value) (k:Nat) (f:Nat→Nat):Prop :=
 (∃ ao c,v=.slice ao k c∧k=0)∨∃ b o c,v=.slice (some ⟨b,o,none⟩) k c∧b<w.heap.size∧∀ i,i<k→w.cell? ⟨b,o+i,none⟩=some (.int .u32 ((f i:Nat):Int))
theorem Wa.gr {w w':World} {v:Value} {k:Nat} {f:Nat→Nat} (h:Wa w v k f) (hg:Gr w w'):Wa w' v k f:=by
 rcases h with h|⟨b,o,c,rfl,hb,hc⟩
 ·exact .inl h
 ·exact .inr ⟨b,o,c,rfl,Nat.lt_of_lt_of_le hb hg.size,fun i hi=>(Below.cell hg (p:=⟨b,o+i,none⟩) hb).trans (hc i hi)⟩
theorem Wa.slice {w:World} {v:Value} {k:Nat} {f:Nat→Nat} (h:Wa w v k f):∃ ao c,v=.slice ao k c:=by
 rcases h with ⟨ao,c,rfl,_⟩|⟨b,o,c,rfl,_⟩
 ·exact ⟨_,_,rfl⟩
 ·exact ⟨_,_,rfl⟩
end
section
open Go.RowKit
theorem xo6 (n:Nat):nb n≤14*tw n:=by
 rw [qn2]
 refine Nat.lt_of_lt_of_le (qc1 n) ?_
 unfold tp
 rw [Nat.pow_mul]
 exact Nat.pow_le_pow_left (by decide) _
end
section
open Go.RowKit
def RootAt (w:World) (r n g j:Nat) (wr:World):Prop :=
 Dr wr w.heap.size (.slice (some ⟨g,0,none⟩) n n) n (fun t=>if t<j then 0 else tg r t)∧Below w.heap.size w wr∧g<wr.heap.size
theorem RootAt.next {w wr:World} {r n g j d:Nat} (hgw:w.heap.size≤g) (h:RootAt w r n g (j+1) wr) (hd:tg r j=d) (hj:j<n):RootAt w r n g j (wr.setCell ⟨g,j,none⟩ (.int .i64 ((d:Nat):Int))):=by
 refine ⟨(h.1.store j d hj).congr fun i hi=>?_,h.2.1.setCell hgw _,by simpa using h.2.2⟩
 by_cases e:i=j
 ·subst e;simp [hd]
 ·by_cases e2:i<j
  ·simp [e,e2,show i<j+1 by omega]
  ·simp [e,e2,show ¬ i<j+1 by omega]
end
end Go.Proofs.YtaflakcemiilaaaGreatDoor

set_option maxRecDepth 100000
set_option maxHeartbeats 16000000
set_option linter.unusedVariables false
set_option linter.unusedSimpArgs false
namespace Go.Proofs.YtaflakcemiilaaaGreatDoor
open Go.RowKit
theorem xa1 {y:Nat} (h:y≠0):hd y=hd (y / 10) ++ [UInt8.ofNat (48+y % 10)]:=by
 unfold hd
 rw [if_neg h]
 by_cases h1:y<10
 ·rw [if_pos (by omega),Lib.decDigits_one h1,show y % 10=y by omega];rfl
 ·rw [if_neg (by omega),qi8 h1]
def cutd (x i k:Nat):Nat:=x / 10 ^ (4*i+k)
theorem qC3 (x i:Nat):cutd x (i+1) 0=cutd x i 4:=rfl
theorem qD3 (x i k:Nat):cutd x i (k+1)=cutd x i k / 10:=by
 unfold cutd
 rw [show 4*i+(k+1)=4*i+k+1 by omega,Nat.pow_succ,Nat.div_div_eq_div_mul]
theorem xk5 (x i:Nat):tg x i=cutd x i 0 % 10 ^ 4:=by
 unfold tg cutd tp
 rw [Nat.add_zero,Nat.pow_mul]
theorem qZ8 {x i k:Nat} (h:i+1<tw x) (hk:k≤4):0<cutd x i k:=by
 unfold cutd
 apply Nat.div_pos _ (Nat.pow_pos (by decide))
 have h1:tp (i+1)≤x:=qC1.1 (by omega)
 refine Nat.le_trans ?_ h1
 unfold tp
 rw [show (10000:Nat)=10 ^ 4 from rfl,← Nat.pow_mul]
 exact Nat.pow_le_pow_right (by decide) (by omega)
theorem qx2 {x i k:Nat} (h:tw x≤i+1) (hk:k≤4):cutd x i k<10 ^ (4 - k):=by
 unfold cutd
 rw [Nat.div_lt_iff_lt_mul (Nat.pow_pos (by decide)),← Nat.pow_add]
 have h1:x<tp (i+1):=qg6.1 h
 unfold tp at h1
 rw [show (10000:Nat)=10 ^ 4 from rfl,← Nat.pow_mul] at h1
 exact Nat.lt_of_lt_of_le h1 (Nat.pow_le_pow_right (by decide) (by omega))
theorem qX8 {y k d:Nat} (hk:k<4) (h:d=y % 10 ^ (4 - k)):d / 10=(y / 10) % 10 ^ (4 - (k+1))∧d % 10=y % 10:=by
 have e:10 ^ (4 - k)=10*10 ^ (4 - (k+1)):=by rw [show 4 - k=(4 - (k+1))+1 by omega,Nat.pow_succ,Nat.mul_comm]
 rw [h,e]
 exact ⟨Nat.mod_mul_right_div_self _ _ _,Nat.mod_mul_right_mod _ _ _⟩
theorem xE_ (s:ByteArray):(⟨s.data.toList.toArray⟩:ByteArray)=s:=by cases s;simp
theorem qW1 {e:Nat} (h:e<10):Utf8.encode (48+(e:Int))=⟨#[UInt8.ofNat (48+e)]⟩:=by
 match e,h with
 | 0,_=>rfl
 | 1,_=>rfl
 | 2,_=>rfl
 | 3,_=>rfl
 | 4,_=>rfl
 | 5,_=>rfl
 | 6,_=>rfl
 | 7,_=>rfl
 | 8,_=>rfl
 | 9,_=>rfl
attribute [local irreducible] Utf8.encode
theorem qu2 (v:Value) (x:Nat) (w:World) (hx:Rn w v x) (bx:tw x≤10000000) :
  Calls Tryz.prog 166 #[v] w fun e w'=>e=.returned (.string ⟨(Lib.decDigits x).toArray⟩)∧Below w.heap.size w w':=by
 obtain ⟨n,hn⟩:∃ n,tw x=n:=⟨_,rfl⟩
 rw [hn] at bx
 have HNX:=Lib.hid hn
 have HX:=Lib.hid hx
 rcases Dr.cases hx with ⟨rfl,h0⟩|⟨b,c,rfl,_,hbl,hnc,hc,hcell,_⟩
 ·have h1:x=0:=qj0.1 h0
  subst h1
  clear hx
  go_enter Tryz.func166,Tryz.ntmps166
  go_wp2_with fail
  go_ret
  exact ⟨by rw [Lib.decDigits_one (by decide)];rfl,Below.refl _ _⟩
 ·rw [hn] at hcell hnc ⊢
  rw [hn] at hx
  by_cases h0:n=0
  ·subst h0
   have h1:x=0:=qj0.1 hn
   subst h1
   clear hx
   go_enter Tryz.func166,Tryz.ntmps166
   go_wp2_with fail
   go_ret
   exact ⟨by rw [Lib.decDigits_one (by decide)];rfl,Below.refl _ _⟩
  ·have hnp:0<n:=by omega
   have HC:=Lib.hid hcell
   have HX0:Hid (x≠0):=Lib.hid (by intro e;subst e;rw [qk4] at hn;omega)
   clear hx hcell hn h0
   go_enter Tryz.func166,Tryz.ntmps166
   go_wp2_with fail
   have hnz:((n:Int) == 0)=false:=by
    rw [beq_eq_false_iff_ne]
    omega
   rw [hnz]
   go_loopg [3,4] n (fun j S i wr=>∃ (t:Nat) (s:ByteArray),i=.int .i64 (t:Int)∧S=.string s∧t≤n∧Hid (t+j=n)∧s.size≤4*t∧Hid (Lib.decDigits x=hd (cutd x t 0) ++ s.data.toList)∧Hid (Gr w wr))
   case atStart=>exact ⟨0,⟨#[]⟩,rfl,rfl,Nat.zero_le _,Lib.hid (Nat.zero_add _),Nat.zero_le _,Lib.hid (by unfold cutd hd;rw [if_neg (by simpa using HX0.out)];simp),Lib.hid (Gr.refl _)⟩
   case round =>
    obtain ⟨t,s,rfl,rfl,ht,HT,hs,HD,HG⟩:=hrel
    by_cases htn:t<n
    ·have htn2:(t:Int)<(n:Int):=by omega
     obtain ⟨d,hd⟩:∃ d,tg x t=d:=⟨_,rfl⟩
     have hcell:wr.cell? ⟨b,t,none⟩=some (.int .i64 (d:Int)):=by
      rw [← hd,← HC.out t htn]
      exact Below.cell HG.out (p:=⟨b,t,none⟩) hbl
     have HDG:Hid (d=cutd x t 0 % 10 ^ (4 - 0)):=Lib.hid (by rw [← hd];exact xk5 x t)
     clear hd
     go_wp2_with fail
     obtain ⟨wo,rfl⟩:∃ wo:World,wo=wr:=⟨_,rfl⟩
     obtain ⟨ko,rfl⟩:∃ ko:Nat,ko=gk:=⟨_,rfl⟩
     go_loopg [3,5,6] 4 (fun j S dd kk wr=>∃ (k d:Nat) (s:ByteArray),kk=.int .i64 (k:Int)∧dd=.int .i64 (d:Int)∧S=.string s∧k≤4∧d<10000∧Hid (k+j=4)∧s.size≤4*t+k∧Hid (d=cutd x t k % 10 ^ (4 - k))∧Hid (Lib.decDigits x=hd (cutd x t k) ++ s.data.toList)∧Hid (Gr w wr))
     case atStart=>exact ⟨0,d,s,rfl,rfl,rfl,by omega,by rw [HDG.out];exact Nat.mod_lt _ (by decide),Lib.hid rfl,hs,HDG,HD,HG⟩
     case round =>
      clear hs HD HG HDG hcell
      obtain ⟨k,d,s,rfl,rfl,rfl,hk,hd4,HK,hs,HDG,HD,HG⟩:=hrel
      have hcase:(k<4∧(t+1<n∨0<d))∨(k=4∨(¬ t+1<n∧d=0)):=by omega
      rcases hcase with ⟨hk4,hst⟩|hend
      ·have HY:Hid (cutd x t k≠0):=Lib.hid (by
        rcases hst with h|h
        ·exact Nat.ne_of_gt (qZ8 (by rw [HNX.out];exact h) hk)
        ·intro e
         have:=HDG.out
         rw [e,Nat.zero_mod] at this
         omega)
       have HRS:=Lib.hid (qX8 hk4 HDG.out)
       obtain ⟨d',hd'⟩:∃ d':Nat,(d:Int) / 10=(d':Int):=⟨d / 10,by omega⟩
       have hE2:Utf8.encode (48+(d:Int) % 10)=⟨#[UInt8.ofNat (48+d % 10)]⟩:=by
        rw [show (d:Int) % 10=((d % 10:Nat):Int) by omega,qW1 (Nat.mod_lt _ (by decide))]
       have HS1:Hid ((Utf8.encode (48+(d:Int) % 10) ++ s).data.toList = [UInt8.ofNat (48+d % 10)] ++ s.data.toList):=Lib.hid (by rw [hE2];simp)
       have hE1:(Utf8.encode (48+(d:Int) % 10)).size=1:=by rw [hE2];rfl
       have HSz:Hid ((Utf8.encode (48+(d:Int) % 10) ++ s).size≤4*t+(k+1)):=Lib.hid (by rw [ByteArray.size_append,hE1];omega)
       clear hE2
       have HD1:Hid (Lib.decDigits x=hd (cutd x t (k+1)) ++ (Utf8.encode (48+(d:Int) % 10) ++ s).data.toList):=Lib.hid (by
        rw [HD.out,xa1 HY.out,HS1.out,qD3,HRS.out.2,List.append_assoc])
       have HDG1:Hid (d'=cutd x t (k+1) % 10 ^ (4 - (k+1))):=Lib.hid (by rw [qD3,← HRS.out.1];omega)
       have hk2:(k:Int)<4:=by omega
       have hd4':d'<10000:=by omega
       clear HD HDG HRS HY
       have hst2:((t:Int)+1<(n:Int))∨(¬ (t:Int)+1<(n:Int)∧(0:Int)<(d:Int)):=by omega
       clear hst
       rcases hst2 with hl2|⟨hl2,hl3⟩
       all_goals
        go_wp2_with fail
        go_roundg (4 - (k+1))
        case' measure=>have:=HK.out;omega
        case' rel=>exact ⟨k+1,d',_,rfl,rfl,rfl,by omega,hd4',Lib.hid (by omega),HSz.out,HDG1,HD1,HG⟩
      ·have HD1:Hid (Lib.decDigits x=hd (cutd x (t+1) 0) ++ s.data.toList):=Lib.hid (by
        rcases hend with rfl|⟨h1,h2⟩
        ·rw [qC3];exact HD.out
        ·have h3:=qx2 (x:=x) (i:=t) (k:=4) (by rw [HNX.out];omega) (Nat.le_refl _)
         have h4:=qx2 (x:=x) (i:=t) (k:=k) (by rw [HNX.out];omega) hk
         have h5:=HDG.out
         rw [Nat.mod_eq_of_lt h4,h2] at h5
         rw [qC3,show cutd x t 4=0 by simpa using h3,HD.out,← h5])
       have hsz:s.size≤4*(t+1):=by omega
       clear HD HDG
       have hend2:(¬ (k:Int)<4)∨((k:Int)<4∧¬ (t:Int)+1<(n:Int)∧¬ (0:Int)<(d:Int)):=by omega
       clear hend
       rcases hend2 with hk2|⟨hk2,hl2,hl3⟩
       all_goals
        go_wp2_with fail
        go_roundg (n - (t+1))
        case' measure=>have:=HT.out;omega
        case' rel=>exact ⟨t+1,s,rfl,rfl,by omega,Lib.hid (by omega),hsz,HD1,HG⟩
    ·obtain rfl:t=n:=by omega
     have hne:¬ (t:Int)<(t:Int):=by omega
     have HF:Hid (Lib.decDigits x=s.data.toList):=Lib.hid (by
      have h:=HD.out
      rw [show cutd x t 0=0 from by
       unfold cutd
       apply Nat.div_eq_of_lt
       have h1:x<tp t:=qg6.1 (by rw [HNX.out];exact Nat.le_refl _)
       unfold tp at h1
       rw [Nat.add_zero,Nat.pow_mul]
       exact h1] at h
      exact h)
     clear HD
     go_wp2_with fail
     go_ret
     exact ⟨by rw [HF.out,xE_];rfl,HG.out⟩
end Go.Proofs.YtaflakcemiilaaaGreatDoor

set_option linter.unusedVariables false
set_option linter.unusedSimpArgs false
namespace Go.Proofs.YtaflakcemiilaaaGreatDoor
open Go.RowKit
end Go.Proofs.YtaflakcemiilaaaGreatDoor

set_option linter.unusedVariables false
set_option linter.unusedSimpArgs false
namespace Go.Proofs.YtaflakcemiilaaaGreatDoor
section
def sz (q:Rat):Nat:=max (wl q.num.natAbs) (wl q.den)
theorem qd1 (q:Rat):wl q.num.natAbs≤sz q:=Nat.le_max_left _ _
theorem qc9 (q:Rat):wl q.den≤sz q:=Nat.le_max_right _ _
theorem qQ_ (q:Rat):1≤sz q:=Nat.le_trans (qo_ q.den_pos) (qc9 q)
theorem qd5 {q:Rat} {k:Nat} (h1:wl q.num.natAbs≤k) (h2:wl q.den≤k):sz q≤k:=Nat.max_le.2 ⟨h1,h2⟩
theorem qo6 (n:Int) (g:Nat):(n / (g:Int)).natAbs≤n.natAbs:=Int.natAbs_ediv_le_natAbs n (g:Int)
theorem qe8 {n:Int} {d k:Nat} (h1:wl n.natAbs≤k) (h2:wl d≤k) (h3:1≤k):sz (mkRat n d)≤k:=by
 refine qd5 ?_ ?_
 ·rw [Rat.num_mkRat]
  split
  ·exact Nat.zero_le _
  ·exact Nat.le_trans (qb4 (qo6 _ _)) h1
 ·rw [Rat.den_mkRat]
  split
  ·exact Nat.le_trans (qe5 (by decide)) h3
  ·exact Nat.le_trans (qo5 _ _) h2
theorem qe0 (p q:Rat):sz (p+q)≤sz p+sz q+1:=by
 rw [Rat.add_def']
 have a:=qd1 p
 have b:=qd1 q
 have c:=qc9 p
 have d:=qc9 q
 refine qe8 ?_ (Nat.le_trans (qk6 _ _) (by omega)) (by omega)
 have h1:=qk6 p.num.natAbs q.den
 have h2:=qk6 q.num.natAbs p.den
 have h3:=qo3 (p.num.natAbs*q.den) (q.num.natAbs*p.den)
 refine Nat.le_trans (qb4 (Int.natAbs_add_le _ _)) ?_
 rw [Int.natAbs_mul,Int.natAbs_mul,Int.natAbs_natCast,Int.natAbs_natCast]
 omega
theorem qb0 (p q:Rat):sz (p*q)≤sz p+sz q:=by
 rw [Rat.mul_def']
 have a:=qd1 p
 have b:=qd1 q
 have c:=qc9 p
 have d:=qc9 q
 have e:=qQ_ p
 refine qe8 ?_ (Nat.le_trans (qk6 _ _) (by omega)) (by omega)
 rw [Int.natAbs_mul]
 exact Nat.le_trans (qk6 _ _) (by omega)
theorem qs0 (p:Rat):sz (-p)=sz p:=by
 unfold sz
 rw [Rat.neg_num,Rat.neg_den,Int.natAbs_neg]
theorem qA8 (p q:Rat):sz (p - q)≤sz p+sz q+1:=by
 rw [Rat.sub_eq_add_neg]
 have:=qe0 p (-q)
 rwa [qs0] at this
theorem xi5 (p:Rat):sz p⁻¹≤sz p:=by
 have a:=qd1 p
 have c:=qc9 p
 have e:=qQ_ p
 refine qd5 ?_ ?_
 ·rw [Rat.num_inv,Int.natAbs_mul,Int.natAbs_natCast]
  refine Nat.le_trans (qb4 ?_) c
  rw [Int.natAbs_sign]
  split <;> omega
 ·rw [Rat.den_inv]
  split
  ·exact Nat.le_trans (qe5 (by decide)) e
  ·exact a
theorem qr8 (p q:Rat):sz (p / q)≤sz p+sz q:=by
 rw [Rat.div_def]
 have h1:=qb0 p q⁻¹
 have h2:=xi5 q
 omega
theorem xj3 (n:Int):sz (n:Rat)=max (wl n.natAbs) 1:=by
 unfold sz
 rw [Rat.num_intCast,Rat.den_intCast]
 rfl
theorem qj_ {n:Int} (h1:-9223372036854775808≤n) (h2:n≤9223372036854775807):sz (n:Rat)≤2:=by
 rw [xj3]
 have:wl n.natAbs≤2:=qp0.2 (by omega)
 omega
def sgQ (q:Rat):Int:=if q=0 then 0 else if q<0 then -1 else 1
theorem qy_ {q:Rat}:q.num=0 ↔ q=0:=Rat.num_eq_zero
theorem qj5 {q:Rat}:q.num<0 ↔ q<0:=by
 rw [← Int.not_le,Rat.num_nonneg,Rat.not_le]
theorem qu5 (q:Rat):sgQ q=if q.num=0 then 0 else if q.num<0 then -1 else 1:=by
 unfold sgQ
 by_cases h:q=0
 ·simp [h]
 ·rw [if_neg h,if_neg (fun e=>h (qy_.1 e))]
  by_cases h2:q<0
  ·rw [if_pos h2,if_pos (qj5.2 h2)]
  ·rw [if_neg h2,if_neg (fun e=>h2 (qj5.1 e))]
theorem qh9 {q:Rat} (h:0<q):sgQ q=1:=by
 unfold sgQ
 rw [if_neg (fun e=>by subst e;exact Rat.lt_irrefl h),if_neg (fun e=>Rat.not_lt.2 (Rat.le_of_lt e) h)]
theorem qf5 {q:Rat} (h:q<0):sgQ q = -1:=by
 unfold sgQ
 rw [if_neg (fun e=>by subst e;exact Rat.lt_irrefl h),if_pos h]
theorem qE5 (n:Int) (d:Nat) (hd:0<d):d / Nat.gcd n.natAbs d=(mkRat n d).den:=by
 rw [Rat.den_mkRat,if_neg (by omega),Nat.gcd_comm]
theorem qP7 (n:Int) (d:Nat) (hd:0<d):(if n<0 then -((n.natAbs / Nat.gcd n.natAbs d:Nat):Int) else ((n.natAbs / Nat.gcd n.natAbs d:Nat):Int))=(mkRat n d).num:=by
 have e:(mkRat n d).num=n / ((Nat.gcd n.natAbs d:Nat):Int):=by rw [Rat.num_mkRat,if_neg (by omega),Nat.gcd_comm]
 rw [e]
 have hg:Nat.gcd n.natAbs d ∣ n.natAbs:=Nat.gcd_dvd_left _ _
 generalize Nat.gcd n.natAbs d=g at *
 by_cases h:n<0
 ·rw [if_pos h]
  obtain ⟨m,rfl⟩:∃ m:Nat,n = -(m:Int):=⟨n.natAbs,by omega⟩
  rw [Int.natAbs_neg,Int.natAbs_natCast] at *
  obtain ⟨c,rfl⟩:=hg
  by_cases h0:g=0
  ·subst h0;simp
  ·rw [Nat.mul_div_cancel_left _ (by omega),Int.natCast_mul,← Int.mul_neg,Int.mul_ediv_cancel_left _ (by omega)]
 ·rw [if_neg h]
  obtain ⟨m,rfl⟩:∃ m:Nat,n=(m:Int):=⟨n.natAbs,by omega⟩
  rw [Int.natAbs_natCast,Int.natCast_ediv]
theorem qY_ {p q:Rat} (h1:p.num=q.num) (h2:p.den - 1=q.den - 1):p=q:=by
 refine Rat.ext h1 ?_
 have:=p.den_pos
 have:=q.den_pos
 omega
theorem qV_ (n:Int) (d:Nat) (hd:0<d):sgQ (mkRat n d)=if n=0 then 0 else if n<0 then -1 else 1:=by
 have hd':(0:Int)<(d:Int):=by omega
 have h0:mkRat n d=0 ↔ n=0:=Rat.mkRat_eq_zero (by omega)
 have hn:mkRat n d<0 ↔ n<0:=by
  rw [← Rat.not_le,← Int.not_le,← Rat.divInt_ofNat,Rat.divInt_nonneg_iff_of_pos_right hd']
 unfold sgQ
 simp only [h0,hn]
theorem qU1 (a b:Rat):(if a.num*b.den - b.num*a.den=0 then (0:Int) else if a.num*b.den - b.num*a.den<0 then -1 else 1)=sgQ (a - b):=by
 rw [Rat.sub_def',qV_ _ _ (Nat.mul_pos a.den_pos b.den_pos)]
theorem qC_ (a b:Rat) (h:a.den=b.den):(if a.num - b.num=0 then (0:Int) else if a.num - b.num<0 then -1 else 1)=sgQ (a - b):=by
 rw [← qU1,h]
 have hp:(0:Int)<(b.den:Int):=by have:=b.den_pos;omega
 have e:a.num*(b.den:Int) - b.num*(b.den:Int)=(a.num - b.num)*(b.den:Int):=by rw [Int.sub_mul]
 rw [e]
 have h1:(a.num - b.num)*(b.den:Int)=0 ↔ a.num - b.num=0:=by
  rw [Int.mul_eq_zero];constructor
  ·rintro (h|h) <;> omega
  ·exact fun h=>.inl h
 have h2:(a.num - b.num)*(b.den:Int)<0 ↔ a.num - b.num<0:=by
  constructor
  ·intro h
   rcases Int.lt_or_le (a.num - b.num) 0 with h3|h3
   ·exact h3
   ·have:=Int.mul_nonneg h3 (Int.le_of_lt hp);omega
  ·intro h;exact Int.mul_neg_of_neg_of_pos h hp
 simp only [h1,h2]
theorem qG8 (a b:Rat) (h:a.den=b.den):mkRat (a.num+b.num) a.den=a+b:=by
 have hp:=a.den_pos
 rw [Rat.add_def',← h,← Int.add_mul,Rat.mkRat_mul_right (by omega)]
theorem xk7 (a b:Rat) (ha:a.den=1) (hb:b.den=1):((a.num+b.num:Int):Rat)=a+b:=by
 have e:=qG8 a b (by rw [ha,hb])
 rw [← e,ha]
 exact (Rat.mkRat_self ((a.num+b.num:Int):Rat)).symm
theorem xl0 (a b:Rat) (ha:a.den=1) (hb:b.den=1):((a.num*b.num:Int):Rat)=a*b:=by
 rw [Rat.mul_def',ha,hb]
 exact (Rat.mkRat_self ((a.num*b.num:Int):Rat)).symm
theorem xu6 (b:Rat) (h:b.num≠0):mkRat (if decide (sgQ b<0) then -((b.den:Nat):Int) else ((b.den:Nat):Int)) b.num.natAbs=b⁻¹:=by
 rw [Rat.inv_def]
 have e:(sgQ b<0) ↔ b.num<0:=by
  rw [qu5,if_neg h]
  by_cases h2:b.num<0 <;> simp [h2]
 by_cases h2:b.num<0
 ·rw [if_pos (by simpa using e.2 h2),← Rat.divInt_ofNat,show ((b.num.natAbs:Nat):Int) = -b.num by omega,Rat.neg_divInt_neg]
 ·rw [if_neg (by simpa using fun h3=>h2 (e.1 h3)),← Rat.divInt_ofNat,show ((b.num.natAbs:Nat):Int)=b.num by omega]
end
section
open Go.RowKit
theorem xu_:tw 1=1:=by
 rw [tw,if_neg (by decide)]
 show tw 0+1=1
 rw [qk4]
def rz (q:Rat):Nat:=max (tw q.num.natAbs) (tw q.den)
theorem qh5 (q:Rat):tw q.num.natAbs≤rz q:=Nat.le_max_left _ _
theorem qf0 (q:Rat):tw q.den≤rz q:=Nat.le_max_right _ _
theorem xi3 (q:Rat):1≤rz q:=Nat.le_trans (qJ5 q.den_pos) (qf0 q)
theorem qv_ {q:Rat} {k:Nat} (h1:tw q.num.natAbs≤k) (h2:tw q.den≤k):rz q≤k:=Nat.max_le.2 ⟨h1,h2⟩
theorem qy9 {n:Int} {d k:Nat} (h1:tw n.natAbs≤k) (h2:tw d≤k) (h3:1≤k):rz (mkRat n d)≤k:=by
 refine qv_ ?_ ?_
 ·rw [Rat.num_mkRat]
  split
  ·rw [Int.natAbs_zero,qk4];exact Nat.zero_le _
  ·exact Nat.le_trans (qe1 (qo6 _ _)) h1
 ·rw [Rat.den_mkRat]
  split
  ·exact Nat.le_trans (qn1 (by decide)) h3
  ·exact Nat.le_trans (qX5 _ _) h2
theorem qA_ (p q:Rat):rz (p+q)≤rz p+rz q+1:=by
 rw [Rat.add_def']
 have a:=qh5 p
 have b:=qh5 q
 have c:=qf0 p
 have d:=qf0 q
 refine qy9 ?_ (Nat.le_trans (qm5 _ _) (by omega)) (by omega)
 have h1:=qm5 p.num.natAbs q.den
 have h2:=qm5 q.num.natAbs p.den
 have h3:=qP2 (p.num.natAbs*q.den) (q.num.natAbs*p.den)
 refine Nat.le_trans (qe1 (Int.natAbs_add_le _ _)) ?_
 rw [Int.natAbs_mul,Int.natAbs_mul,Int.natAbs_natCast,Int.natAbs_natCast]
 omega
theorem qk0 (p q:Rat):rz (p*q)≤rz p+rz q:=by
 rw [Rat.mul_def']
 have a:=qh5 p
 have b:=qh5 q
 have c:=qf0 p
 have d:=qf0 q
 have e:=xi3 p
 refine qy9 ?_ (Nat.le_trans (qm5 _ _) (by omega)) (by omega)
 rw [Int.natAbs_mul]
 exact Nat.le_trans (qm5 _ _) (by omega)
theorem xh3 (p:Rat):rz (-p)=rz p:=by
 unfold rz
 rw [Rat.neg_num,Rat.neg_den,Int.natAbs_neg]
theorem xB0 (p q:Rat):rz (p - q)≤rz p+rz q+1:=by
 rw [Rat.sub_eq_add_neg]
 have:=qA_ p (-q)
 rwa [xh3] at this
theorem xj4 (p:Rat):rz p⁻¹≤rz p:=by
 have a:=qh5 p
 have c:=qf0 p
 have e:=xi3 p
 refine qv_ ?_ ?_
 ·rw [Rat.num_inv,Int.natAbs_mul,Int.natAbs_natCast]
  refine Nat.le_trans (qe1 ?_) c
  rw [Int.natAbs_sign]
  split <;> omega
 ·rw [Rat.den_inv]
  split
  ·exact Nat.le_trans (qn1 (by decide)) e
  ·exact a
theorem xx4 (p q:Rat):rz (p / q)≤rz p+rz q:=by
 rw [Rat.div_def]
 have h1:=qk0 p q⁻¹
 have h2:=xj4 q
 omega
theorem xw0 (n:Int):rz (n:Rat)=max (tw n.natAbs) 1:=by
 unfold rz
 rw [Rat.num_intCast,Rat.den_intCast]
 rw [xu_]
section
variable {w w':World} {v:Value} {k:Nat}
theorem Rn.alloc (h:Rn w v k) (o:Obj):Rn (w.alloc o) v k:=Dr.alloc h o
theorem Rn.ne {g:Nat} {T:TypeId} {cs:Array Value} (h:Rn w v k) (hb:Bx w g T cs) (hT:T≠3):v.ownBlock≠some g:=by
 rcases h.2 with ⟨rfl,_⟩|⟨b,c,cur,rfl,_,hh,_⟩
 ·intro e;cases e
 ·intro e
  have e2:b=g:=by injection e
  subst e2
  unfold Bx at hb
  rw [hb] at hh
  injection hh with hh
  injection hh with h1 h2 h3
  exact hT h2
theorem Rn.setOther (h:Rn w v k) {a:Addr} (ha:v.ownBlock≠some a.block) (u:Value):Rn (w.setCell a u) v k:=by
 refine ⟨h.1,?_⟩
 rcases h.2 with hn|⟨b,c,cur,rfl,hb,hh,rest⟩
 ·exact .inl hn
 ·exact .inr ⟨b,c,cur,rfl,hb,(Below.heap_setCell w a u b (fun e=>ha (by simp [Value.ownBlock,e]))).trans hh,rest⟩
end
theorem xq7 (a b:Int):tw (a+b).natAbs≤max (tw a.natAbs) (tw b.natAbs)+1 :=
 Nat.le_trans (qe1 (Int.natAbs_add_le a b)) (qP2 _ _)
theorem qF0 (a b:Int):tw (a*b).natAbs≤tw a.natAbs+tw b.natAbs:=by
 rw [Int.natAbs_mul];exact qm5 _ _
end
section
open Go.RowKit
attribute [local go_sem ↓] Go.wp_at_zero Go.wp_at_succ
theorem xv3 (v u:Value) (x y z:Nat) (w:World) (hz:x+y=z) (hx:Rn w v x) (hy:Rn w u y) (bx:tw x≤1000000000) (by':tw y≤1000000000) :
  Calls Tryz.prog 212 #[v,u] w fun e w'=>(∃ v',e=.returned v'∧Rn w' v' z)∧Below w.heap.size w w':=hz ▸ xa7 v u x y w hx hy bx by'
theorem xm8 (v u:Value) (x y z:Nat) (w:World) (hz:x*y=z) (hx:Rn w v x) (hy:Rn w u y) (bx:tw x≤1000000000) (by':tw y≤1000000000) :
  Calls Tryz.prog 175 #[v,u] w fun e w'=>(∃ v',e=.returned v'∧Rn w' v' z)∧Below w.heap.size w w':=hz ▸ qy5 v u x y w hx hy bx by'
theorem xs_ (v u:Value) (x y z:Nat) (w:World) (hz:x - y=z) (hx:Rn w v x) (hy:Rn w u y) (hle:y≤x) (bx:tw x≤1000000000) (by':tw y≤1000000000) :
  Calls Tryz.prog 230 #[v,u] w fun e w'=>(∃ v',e=.returned v'∧Rn w' v' z)∧Below w.heap.size w w':=hz ▸ qH3 v u x y w hx hy hle bx by'
theorem xC6 (v u:Value) (x y z:Nat) (w:World) (hz:Nat.gcd x y=z) (hx:Rn w v x) (hy:Rn w u y) (bx:tw x≤500000000) (by':tw y≤500000000) :
  Calls Tryz.prog 229 #[v,u] w fun e w'=>(∃ v',e=.returned v'∧Rn w' v' z)∧Below w.heap.size w w':=hz ▸ xc7 v u x y w hx hy bx by'
theorem xA_ (v u:Value) (x y q r:Nat) (w:World) (hq:x / y=q) (hr:x % y=r) (hx:Rn w v x) (hy:Rn w u y) (h0:0<y) (bx:tw x≤500000000) (by':tw y≤500000000) :
  Calls Tryz.prog 174 #[v,u] w fun e w'=>(∃ v1 v2,e=.returned (.tuple #[v1,v2])∧Rn w' v1 q∧Rn w' v2 r)∧Below w.heap.size w w':=hq ▸ hr ▸ qI7 v u x y w hx hy h0 bx by'
theorem xA7 (v u:Value) (x y:Nat) (c:Int) (w:World) (hc:cmpI x y=c) (hx:Rn w v x) (hy:Rn w u y) (bx:tw x≤1000000000) (by':tw y≤1000000000) :
  Calls Tryz.prog 211 #[v,u] w fun e w'=>e=.returned (.int .i64 c)∧Below w.heap.size w w':=hc ▸ qs_ v u x y w hx hy bx by'
theorem xw5 {n:Int} (h1:-9223372036854775808≤n) (h2:n≤9223372036854775807):tw n.natAbs≤5:=qg6.2 (by rw [show tp 5=100000000000000000000 from by decide];omega)
theorem Rn.sl {w:World} {v:Value} {k:Nat} (h:Rn w v k):∃ ao n c,v=.slice ao n c:=by
 obtain ⟨ao,c,e,_⟩:=Dr.slice h
 exact ⟨ao,_,c,e⟩
theorem qg2 (b:Bool) (n:Nat) (z:Int) (v:Value) (w:World) (hz:(if b then -(n:Int) else (n:Int))=z) (h:Rn w v n) :
  Calls Tryz.prog 187 #[.bool b,v] w fun e w'=>(∃ v',e=.returned (.agg #[.bool (decide (z<0)),v'])∧Rn w' v' z.natAbs)∧Below w.heap.size w w':=by
 obtain ⟨ao,c,rfl,hc,hc2⟩:=Dr.slice h
 obtain ⟨k,hk⟩:∃ k,tw n=k:=⟨_,rfl⟩
 rw [hk] at h hc ⊢
 have HK:=Lib.hid hk
 have HR:=Lib.hid h
 have HZ:=Lib.hid hz
 clear h hk hz
 cases b
 ·have he:Hid (decide (z<0)=false∧z.natAbs=n):=Lib.hid (by have:=HZ.out;simp at this;constructor;simp;omega;omega)
  go_enter Tryz.func187,Tryz.ntmps187
  go_wp2
  exact bodyPost_ret (v:=.agg #[.bool false,.slice ao k c]) (by simp [results,Tryz.results187,go_sem]) rfl ⟨⟨_,by rw [he.out.1],by rw [he.out.2];exact HR.out.alloc _⟩,(Below.refl _ _).alloc (Nat.le_refl _) _⟩
 ·by_cases h0:k=0
  ·subst h0
   have hn:n=0:=qj0.1 HK.out
   have he:Hid (decide (z<0)=false∧z.natAbs=n):=Lib.hid (by have:=HZ.out;simp at this;constructor;simp;omega;omega)
   clear hn
   go_enter Tryz.func187,Tryz.ntmps187
   go_wp2
   exact bodyPost_ret (v:=.agg #[.bool false,.slice ao 0 c]) (by simp [results,Tryz.results187,go_sem]) rfl ⟨⟨_,by rw [he.out.1],by rw [he.out.2];exact HR.out.alloc _⟩,(Below.refl _ _).alloc (Nat.le_refl _) _⟩
  ·have hn:0<n:=Nat.pos_of_ne_zero (fun e=>h0 (by rw [← HK.out,e];exact qk4))
   have he:Hid (decide (z<0)=true∧z.natAbs=n):=Lib.hid (by have:=HZ.out;simp at this;constructor;simp;omega;omega)
   have hk0:0<k:=by omega
   clear hn
   go_enter Tryz.func187,Tryz.ntmps187
   go_wp2
   exact bodyPost_ret (v:=.agg #[.bool true,.slice ao k c]) (by simp [results,Tryz.results187,go_sem]) rfl ⟨⟨_,by rw [he.out.1],by rw [he.out.2];exact HR.out.alloc _⟩,(Below.refl _ _).alloc (Nat.le_refl _) _⟩
end
end Go.Proofs.YtaflakcemiilaaaGreatDoor

set_option maxRecDepth 100000
set_option maxHeartbeats 16000000
set_option linter.unusedVariables false
set_option linter.unusedSimpArgs false
namespace Go.Proofs.YtaflakcemiilaaaGreatDoor
section
open Go.RowKit
theorem nzof (n:Nat) (w:World) (h:n<18446744073709551616) :
  Calls Tryz.prog 124 #[.int .u64 ((n:Nat):Int)] w fun e w'=>e=.returned (Value.agg #[.int .u64 (lo n),.string (bg n)])∧Below w.heap.size w w':=by
 have:=qt4 ((n:Nat):Int) w (by omega) (by omega)
 rwa [Int.toNat_natCast] at this
theorem xr1 (a b z:Nat) (w:World) (hz:a+b=z) (ha:wl a≤549755813888) (hb:wl b≤549755813888) :
  Calls Tryz.prog 122 #[(Value.agg #[.int .u64 (lo a),.string (bg a)]),(Value.agg #[.int .u64 (lo b),.string (bg b)])] w fun e w'=>e=.returned (Value.agg #[.int .u64 (lo z),.string (bg z)])∧Below w.heap.size w w':=hz ▸ qu8 a b w ha hb
theorem xA2 (a b z:Nat) (w:World) (hz:a*b=z) (ha:wl a≤549755813888) (hb:wl b≤549755813888) :
  Calls Tryz.prog 112 #[(Value.agg #[.int .u64 (lo a),.string (bg a)]),(Value.agg #[.int .u64 (lo b),.string (bg b)])] w fun e w'=>e=.returned (Value.agg #[.int .u64 (lo z),.string (bg z)])∧Below w.heap.size w w':=hz ▸ qq3 a b w ha hb
theorem qK3 (a b q r:Nat) (w:World) (hq:a / b=q) (hr:a % b=r) (h0:0<b) (ha:wl a≤549755813888) (hb:wl b≤549755813888) :
  Calls Tryz.prog 173 #[(Value.agg #[.int .u64 (lo a),.string (bg a)]),(Value.agg #[.int .u64 (lo b),.string (bg b)])] w fun e w'=>e=.returned (.tuple #[(Value.agg #[.int .u64 (lo q),.string (bg q)]),(Value.agg #[.int .u64 (lo r),.string (bg r)]),.bool true])∧Below w.heap.size w w':=by
 refine (qu4 a b w ha hb).mono fun e w' h=>?_
 unfold DivPost at h
 rw [if_neg (by omega),hq,hr] at h
 exact h
theorem qC0 (a n z:Nat) (w:World) (hz:a ^ n=z) (hn:n≤4096) (hb:n*nb a≤262144) (ha:wl a≤8192) :
  Calls Tryz.prog 170 #[(Value.agg #[.int .u64 (lo a),.string (bg a)]),.int .i64 ((n:Nat):Int)] w fun e w'=>e=.returned (.tuple #[(Value.agg #[.int .u64 (lo z),.string (bg z)]),.int .i64 0])∧Below w.heap.size w w':=hz ▸ xw1 a n w hn hb ha
theorem qD0 (a z:Nat) (w:World) (hz:rt a=z) (ha:wl a≤900000) :
  Calls Tryz.prog 117 #[(Value.agg #[.int .u64 (lo a),.string (bg a)])] w fun e w'=>e=.returned (Value.agg #[.int .u64 (lo z),.string (bg z)])∧Below w.heap.size w w':=hz ▸ xf2 a w ha
end
section
open Go.RowKit
theorem xC9 (v:Value) (k:Nat) (f:Nat→Nat) (z:Nat) (w0 w:World) (hz:vl f k=z) (hk:k≤1000000) (h:Wa w0 v k f) (hgr:Gr w0 w) (hf:∀ i,i<k→f i<4294967296) :
  Calls Tryz.prog 203 #[v] w fun e w'=>e=.returned (Value.agg #[.int .u64 (lo z),.string (bg z)])∧Below w.heap.size w w':=by
 have HZ:=Lib.hid hz
 have HF:=Lib.hid hf
 have HW:=Lib.hid (h.gr hgr)
 obtain ⟨ao,c,rfl⟩:=h.slice
 clear hf h hz hgr
 obtain ⟨W0,HW0⟩:∃ W0,Hid ((w.alloc (.cells #[.int .u64 0,.string ⟨#[]⟩] 30)).alloc (.cells #[.int .u64 0,.string ⟨#[]⟩] 30)=W0):=⟨_,Lib.hid rfl⟩
 have HB0:Hid (Below w.heap.size w W0):=Lib.hid (by rw [← HW0.out];exact ((Below.refl _ _).alloc (Nat.le_refl _) _).alloc (by simp) _)
 have HR0:Hid (Bx W0 w.heap.size 30 #[.int .u64 0,.string ⟨#[]⟩]):=Lib.hid (by rw [← HW0.out];exact (Bx.new _ _ _).alloc _)
 have HO0:Hid (Bx W0 (w.heap.size+1) 30 #[.int .u64 (lo (upv f k k)),.string (bg (upv f k k))]):=Lib.hid (by rw [← HW0.out,qZ1,xp0,xo5];exact Bx.at (by simp))
 go_enter Tryz.func203,Tryz.ntmps203
 go_wp2_with fail
 rw [HW0.out]
 clear HW0
 go_loopg [4] k (fun j i wr=>i=.int .i64 ((j:Int) - 1)∧j≤k∧Hid (Bx wr w.heap.size 30 #[.int .u64 0,.string ⟨#[]⟩])∧Hid (Bx wr (w.heap.size+1) 30 #[.int .u64 (lo (upv f k j)),.string (bg (upv f k j))])∧Hid (Below w.heap.size w wr))
 case atStart=>exact ⟨rfl,Nat.le_refl _,HR0,HO0,HB0⟩
 case round =>
  obtain ⟨rfl,hj,HR,HO,HB⟩:=hrel
  clear HR0 HO0 HB0
  by_cases h0:gk=0
  ·subst h0
   have hv:upv f k 0=z:=by rw [xs8];exact HZ.out
   rw [hv] at HO
   clear hv
   have x0:=HO.out.c0 (Gr.refl _)
   have x1:=HO.out.c1 (Gr.refl _)
   have r0:=HR.out.c0 (Gr.refl _)
   have r1:=HR.out.c1 (Gr.refl _)
   have fr:=HR.out.free wr (Gr.refl _)
   go_wp2_with fail
   exact bodyPost_ret (v:=(Value.agg #[.int .u64 (lo z),.string (bg z)])) (by simp [results,Tryz.results203,go_sem,r0,r1]) rfl ⟨rfl,qj1 HB.out (Nat.le_refl _) _ _⟩
  ·obtain ⟨j,rfl⟩:∃ j,gk=j+1:=⟨gk - 1,by omega⟩
   have hj2:((j+1:Nat):Int) - 1=(j:Int):=by omega
   rw [hj2]
   rcases HW.out with ⟨_,_,_,h⟩|⟨b,o,c2,hv,hb,hcell⟩
   ·omega
   injection hv with hv1 _ hv3
   subst hv1 hv3
   obtain ⟨d,hd⟩:∃ d,f j=d:=⟨_,rfl⟩
   have hd2:d<4294967296:=by rw [← hd];exact HF.out j (by omega)
   have hc:∀ w',Gr wr w'→w'.cell? ⟨b,o+j,none⟩=some (.int .u32 (d:Int)):=fun w' hw=>by
    rw [← hd,← hcell j (by omega)]
    exact Below.cell (Below.trans HB.out (Below.mono hw HB.out.size)) (p:=⟨b,o+j,none⟩) hb
   go_wp2_with fail
   have HC:=Lib.hid hc
   have HBW:Hid (wl (upv f k (j+1))≤1000000):=Lib.hid (Nat.le_trans (xB6 HF.out (j+1)) hk)
   have hst:=qY3 f (show j<k by omega)
   rw [hd] at hst
   have HST:=Lib.hid hst
   obtain ⟨x,hx⟩:∃ x,upv f k (j+1)=x:=⟨_,rfl⟩
   rw [hx] at HO HBW HST
   obtain ⟨y,hy⟩:∃ y,x*4294967296=y:=⟨_,rfl⟩
   rw [hy] at HST
   have HY:Hid (x*4294967296=y∧wl y≤1000002):=Lib.hid ⟨hy,by have:=qk6 x 4294967296;have:=HBW.out;have h2:wl 4294967296≤2:=qa4.2 (by decide);rw [← hy];omega⟩
   have HDW:Hid (wl d≤1):=Lib.hid (qe5 hd2)
   clear hx hy hst hcell hc HW
   have HOX:=Lib.hid HO.out.cells
   refine qa2 10 [] [] (fun _=>0) (fun _=>.cells #[] 0) [(true,0),(true,1),(true,2),(true,3),(true,4),(true,5),(true,6),(true,7),(true,8),(true,9)] (by kernel_rfl) (by kernel_rfl) (fun i hi=>by cases hi) (fun i hi=>by cases hi) (fun _ _ _ _ _ h=>h) (fun T hT=>?_)
   have lx:=HC.out
   have lo:=HOX.out
   have hjk:j<k:=by omega
   have hwr:IntKind.u64.wrap (d:Int)=(d:Int):=by rw [IntKind.wrap_u64];omega
   iterate 1
    refine qi3 (v:=?_) rfl (by rfl) (fun w' hw=>?_) ?_
    rotate_left
    ·go_simp
     with_reducible rfl
    simp only [Act.put,List.setIfInBounds_toArray,List.set_cons_zero,List.set_cons_succ]
   refine qg9 rfl (by rfl) Tryz.call124 (fun w' hw=>nzof 4294967296 _ (by decide)) (by rfl) ?_
   simp only [Act.put,List.setIfInBounds_toArray,List.set_cons_zero,List.set_cons_succ]
   refine qg9 rfl (by rfl) Tryz.call112 (fun w' hw=>xA2 x 4294967296 y _ HY.out.1 (by have:=HBW.out;omega) (by have h2:wl 4294967296≤2:=qa4.2 (by decide);omega)) (by rfl) ?_
   simp only [Act.put,List.setIfInBounds_toArray,List.set_cons_zero,List.set_cons_succ]
   iterate 5
    refine qi3 (v:=?_) rfl (by rfl) (fun w' hw=>?_) ?_
    rotate_left
    ·go_simp
     with_reducible rfl
    simp only [Act.put,List.setIfInBounds_toArray,List.set_cons_zero,List.set_cons_succ]
   refine qg9 rfl (by rfl) Tryz.call124 (fun w' hw=>nzof d _ (by omega)) (by rfl) ?_
   simp only [Act.put,List.setIfInBounds_toArray,List.set_cons_zero,List.set_cons_succ]
   refine qg9 rfl (by rfl) Tryz.call122 (fun w' hw=>xr1 y d _ _ HST.out.symm (by have:=HY.out.2;omega) (by have:=HDW.out;omega)) (by rfl) ?_
   simp only [Act.put,List.setIfInBounds_toArray,List.set_cons_zero,List.set_cons_succ]
   refine qa1 (hT.out _ _ ?_);clear hT T
   intro G vw1 hg hf
   simp only [puts,Act.put,List.setIfInBounds_toArray,List.set_cons_zero,List.set_cons_succ,List.drop_succ_cons,List.drop_zero,↓reduceIte,Nat.reduceEqDiff]
   have HG:=Lib.hid hg
   clear hg hf lx lo HC HOX hwr hd2
   have x0:=HO.out.c0 HG.out
   have x1:=HO.out.c1 HG.out
   have fx:=HO.out.free vw1 HG.out
   go_wp2_with fail
   go_roundg j
   case measure=>omega
   case rel=>exact ⟨rfl,by omega,Lib.hid ((HR.out.gr HG.out).keep2 (by omega) _ _),Lib.hid ((HO.out.gr HG.out).set2 _ _),Lib.hid (qj1 (Below.trans HB.out (Below.mono HG.out HB.out.size)) (by omega) _ _)⟩
end
section
open Go.RowKit
attribute [local go_sem ↓] Go.wp_at_zero Go.wp_at_succ
theorem xz0 (v:Value) (x:Nat) (s:ByteArray) (w:World) (hs:(⟨(Lib.decDigits x).toArray⟩:ByteArray)=s) (hx:Rn w v x) (bx:tw x≤10000000) :
  Calls Tryz.prog 166 #[v] w fun e w'=>e=.returned (.string s)∧Below w.heap.size w w':=hs ▸ qu2 v x w hx bx
theorem xp5 (a:Nat) (s:ByteArray) (w:World) (hs:(⟨(Lib.decDigits a).toArray⟩:ByteArray)=s) (ha:wl a≤900000) (HT:Hid (Tab w)) :
  Calls Tryz.prog 145 #[(Value.agg #[.int .u64 (lo a),.string (bg a)])] w fun e w'=>e=.returned (.string s)∧Below w.heap.size w w':=hs ▸ qz2 a w (by omega) HT
theorem Rn.len {w:World} {ao:Option Addr} {n c k:Nat} (h:Rn w (.slice ao n c) k):n=tw k:=by
 obtain ⟨ao',c',e,_⟩:=Dr.slice h
 injection e with _ e2 _
end
section
open Go.RowKit
attribute [local go_sem ↓] Go.wp_at_zero Go.wp_at_succ
attribute [local go_sem ↓] qd6 qa7
end
end Go.Proofs.YtaflakcemiilaaaGreatDoor
