
/- A slice that a walk makes and keeps. No condition but those stated. -/
import Derived.Test.YtobojnodohjiaaaGreatDoorCrtP
import Derived.Test.YtobojnodohjiaaaGreatDoorRecP
import Derived.Test.YtobojnodohjiaaaGreatDoorPL
import Derived.Test.YtobojnodohjiaaaGreatDoorPT
import Derived.Test.YtobojnodohjiaaaGreatDoorLawZ2
import Derived.Test.YtobojnodohjiaaaGreatDoorPJ
import Derived.Test.YtobojnodohjiaaaGreatDoorHp
import Derived.Test.YtobojnodohjiaaaGreatDoorRecA
set_option maxRecDepth 100000
set_option maxHeartbeats 16000000
set_option linter.unusedVariables false
set_option linter.unusedSimpArgs false
namespace Go.Proofs.YtobojnodohjiaaaGreatDoor
section
open Go.RowKit
theorem qG3 {f:Nat→Int × Nat} {n:Nat} {A:Int} {L:Nat} (hp:∀ i,i<n→0<(f i).2) (hd:∀ i,i<n→((f i).2:Int) ∣ A - (f i).1) (h1:∀ i,i<n→(f i).2 ∣ L) (h2:∀ z:Nat,(∀ i,i<n→(f i).2 ∣ z)→L ∣ z) (h0:0≤A) (hA:A<(L:Int)):chn f n=some (A,L):=by
 obtain ⟨M,h,hM⟩:=qy2 hp hd
 have e1:=(qf3 hp h).2.2.2
 have e2:(M:Int) ∣ (L:Int):=qr2 h _ (fun i hi=>Int.ofNat_dvd.2 (h1 i hi))
 have e3:=h2 M (fun i hi=>(e1 i hi).2)
 obtain rfl:M=L:=Nat.dvd_antisymm (Int.ofNat_dvd.1 e2) e3
 rw [h,Int.emod_eq_of_lt h0 hA]
theorem xh9 {f:Nat→Int × Nat} {n:Nat} (hp:∀ i,i<n→0<(f i).2) (hd:∀ A:Int,¬ ∀ i,i<n→((f i).2:Int) ∣ A - (f i).1):chn f n=none:=by
 cases h:chn f n with
 | none=>rfl
 | some p=>exact absurd (fun i hi=>((qf3 hp h).2.2.2 i hi).1) (hd p.1)
def f2r (r1:Int) (m1:Nat) (r2:Int) (m2:Nat) (i:Nat):Int × Nat:=if i=0 then (r1,m1) else (r2,m2)
theorem qg7 {P:Nat→Prop} (h0:P 0) (h1:P 1):∀ i,i<2→P i:=fun i hi=>by
 rcases (show i=0∨i=1 by omega) with rfl|rfl
 ·exact h0
 ·exact h1
theorem qQ1 {r1 r2 A:Int} {m1 m2 L:Nat} (hm1:0<m1) (hm2:0<m2) (hL:Nat.lcm m1 m2=L) (h0:0≤A) (hA:A<(L:Int)) (d1:(A - r1) % (m1:Int)=0) (d2:(A - r2) % (m2:Int)=0):chn (f2r r1 m1 r2 m2) 2=some (A,L):=by
 subst hL
 exact qG3 (qg7 hm1 hm2) (qg7 (Int.dvd_of_emod_eq_zero d1) (Int.dvd_of_emod_eq_zero d2)) (qg7 (Nat.dvd_lcm_left _ _) (Nat.dvd_lcm_right _ _)) (fun z hz=>Nat.lcm_dvd (hz 0 (by decide)) (hz 1 (by decide))) h0 hA
theorem qt8 {r1 r2:Int} {m1 m2:Nat} (hm1:0<m1) (hm2:0<m2) (h:¬ (r2 - r1) % ((Nat.gcd m1 m2:Nat):Int)=0):chn (f2r r1 m1 r2 m2) 2=none:=by
 refine xh9 (qg7 hm1 hm2) fun A hA=>h ?_
 have e:=qQ5 (R1:=r1) (R2:=r2) (hA 0 (by decide)) (hA 1 (by decide))
 rw [crg] at e
 exact e
def bkc (k:Nat) (a:Int) (m:Nat):Bool:=(List.range k).all fun d=>(List.range k).all fun n=>d == 0 || !((Nat.gcd d m == 1) && ((((n:Int) - a*(d:Int)) % (m:Int) == 0) || ((-(n:Int) - a*(d:Int)) % (m:Int) == 0)))
theorem qB6 {k:Nat} {a:Int} {m:Nat} (hm:m≤2*(k*k)) (h:bkc k a m=true):∀ g,rfar g m→¬ rfit g a m:=by
 intro g h1 h2
 have lt:∀ x:Nat,2*(x*x)<m→x<k:=fun x hx=>by
  rcases Nat.lt_or_ge x k with h|h
  ·exact h
  ·have:=Nat.mul_le_mul h h;omega
 have hd:=lt _ h1.2
 have hn:=lt _ h1.1
 unfold bkc at h
 rw [List.all_eq_true] at h
 have h:=h g.den (List.mem_range.2 hd)
 rw [List.all_eq_true] at h
 have h:=h g.num.natAbs (List.mem_range.2 hn)
 have hd0:=g.den_pos
 obtain ⟨_,h3,h4⟩:=h2
 rcases Int.natAbs_eq g.num with e|e
 ·rw [e] at h4
  rw [h3,h4] at h
  have hz:(g.den == 0)=false:=by simpa using (show ¬ g.den=0 by omega)
  rw [hz] at h
  simp at h
 ·rw [e] at h4
  rw [h3,h4] at h
  have hz:(g.den == 0)=false:=by simpa using (show ¬ g.den=0 by omega)
  rw [hz] at h
  simp at h
theorem qJ3 {a:Int} {m:Nat} {z:Rat} (h1:rfar z m) (h2:rfit z a m):bk a m z true:=.inl ⟨rfl,h1,h2⟩
theorem qO_ {a:Int} {m:Nat} (h:∀ g,rfar g m→¬ rfit g a m):bk a m 0 false:=.inr ⟨rfl,rfl,h⟩
end
section
open Go.RowKit
attribute [local go_sem ↓] Go.wp_at_zero Go.wp_at_succ
attribute [local go_sem ↓] qb8 qa3 qc8
theorem xm8 (q:Rat) (tx:ByteArray) (w:World) (hs_q:sz q≤100000) (HTX:Hid (itx q.num=tx)) (HW:Hid (q.den=1)) (HT:Hid (Tab w)) :
  Calls Tryz.prog 153 #[(Value.agg #[.int .u64 (lo q.num.natAbs),.string (bg q.num.natAbs),.bool (q.num<0),.int .u64 (lo (q.den - 1)),.string (bg (q.den - 1))])] w fun e w'=>e=.returned ((.string tx))∧Below w.heap.size w w':=by
 have hn_q:wl q.num.natAbs≤100000:=Nat.le_trans (qc3 q) hs_q
 have hd_q:wl (q.den)≤100000:=Nat.le_trans (qb_ q) hs_q
 go_enter Tryz.func153,Tryz.ntmps153
 have I:=lh_ (hp0 w)
 refine kS fun K O=>?_
 refine wp_region_lit ?_
 go_wp2
 refine kF_ O ((I.out).aL (w.heap.size)) fun Wx0 J=>?_;clear O K
 clear I;have I:=J;clear J
 refine wp_seq ?_
 have lx0:=kc0_ I
 refine ks2_ fun K O T Y=>?_
 refine tk ?_
 refine ck Tryz.call146 (fun w' hw=>qc2 q true _ (decide_eq_true (by exact HW.out))) ?_
 refine nlS Y I fun vw1 J=>?_
 clear Y T I lx0
 go_wp2
 refine kO O ?_;clear O K
 have I:=J;clear J
 refine wp_cond_true (by rfl) ?_
 have HB:=HPb I
 have lx0:=kc0_ I
 refine ks4_ fun K O T Y=>?_
 refine tk2_ ?_
 refine ck Tryz.call141 (fun w' hw=>qJ1 (q.num) tx _ HTX.out om (lh_ (HT.out.gr (Gr.trans HB.out hw)))) ?_
 refine tk ?_
 refine nlS Y I fun vw2 J=>?_
 clear Y T I lx0 HB
 go_wp2
 refine kO O ?_;clear O K
 have I:=J;clear J
 refine wp_ret ?_
 try simp only [Exit.then,Exit.inBlock]
 exact bodyPost_ret (v:=.string tx) (by simp [results,Tryz.results153,go_sem]) rfl ⟨rfl,I.out.1⟩
theorem xm7 (q:Rat) (tx ty t1 tz:ByteArray) (w:World) (hs_q:sz q≤100000) (HTX:Hid (itx q.num=tx)) (HW:Hid (¬ q.den=1)) (HTY:Hid ((⟨(Lib.decDigits (q.den)).toArray⟩:ByteArray)=ty)) (HC1:Hid (tx ++ (⟨#[47]⟩:ByteArray)=t1)) (HC2:Hid (t1 ++ ty=tz)) (hl1:tx.size≤100000000) (hl2:t1.size≤100000001) (hl3:ty.size≤100000000) (HT:Hid (Tab w)) :
  Calls Tryz.prog 153 #[(Value.agg #[.int .u64 (lo q.num.natAbs),.string (bg q.num.natAbs),.bool (q.num<0),.int .u64 (lo (q.den - 1)),.string (bg (q.den - 1))])] w fun e w'=>e=.returned ((.string tz))∧Below w.heap.size w w':=by
 have hn_q:wl q.num.natAbs≤100000:=Nat.le_trans (qc3 q) hs_q
 have hd_q:wl (q.den)≤100000:=Nat.le_trans (qb_ q) hs_q
 go_enter Tryz.func153,Tryz.ntmps153
 have I:=lh_ (hp0 w)
 refine kS fun K O=>?_
 refine wp_region_lit ?_
 go_wp2
 refine kF_ O ((I.out).aL (w.heap.size)) fun Wx0 J=>?_;clear O K
 clear I;have I:=J;clear J
 refine wp_seq ?_
 have lx0:=kc0_ I
 refine ks2_ fun K O T Y=>?_
 refine tk ?_
 refine ck Tryz.call146 (fun w' hw=>qc2 q false _ (decide_eq_false (by exact HW.out))) ?_
 refine nlS Y I fun vw1 J=>?_
 clear Y T I lx0
 go_wp2
 refine kO O ?_;clear O K
 have I:=J;clear J
 refine wp_cond_false (by rfl) ?_
 refine wp_skip ?_
 show Code.wp _ _ _ _ _
 have HB:=HPb I
 have hlen1:¬ (9223372036854775807<tx.size+1):=by omega
 have hcat1:tx ++ (⟨#[47]⟩:ByteArray)=t1:=HC1.out
 have hlen2:¬ (9223372036854775807<t1.size+ty.size):=by omega
 have hcat2:t1 ++ ty=tz:=HC2.out
 have lx0:=kc0_ I
 refine kS fun K O=>?_
 refine pd0_ fun T Y=>?_
 refine tk3_ ?_
 refine ck Tryz.call141 (fun w' hw=>qJ1 (q.num) tx _ HTX.out om (lh_ (HT.out.gr (Gr.trans HB.out hw)))) ?_
 refine tk ?_
 refine ck Tryz.call114 (fun w' hw=>qe1 q om _) ?_
 refine ck Tryz.call154 (fun w' hw=>qD1 (q.den) ty _ HTY.out om (lh_ (HT.out.gr (Gr.trans HB.out hw)))) ?_
 refine tk ?_
 refine nlD Y I fun vw2 J=>?_
 clear Y T I lx0 HB
 go_wp2
 refine kF_ O ((J.out).er 0) fun Wx3 I=>?_;clear O K
 clear J
 clear hlen1 hcat1 hlen2 hcat2
 refine wp_ret ?_
 try simp only [Exit.then,Exit.inBlock]
 exact bodyPost_ret (v:=.string tz) (by simp [results,Tryz.results153,go_sem]) rfl ⟨rfl,I.out.1⟩
def ftx (q:Rat):ByteArray:=if q.den=1 then itx q.num else itx q.num ++ (⟨#[47]⟩:ByteArray) ++ ⟨(Lib.decDigits q.den).toArray⟩
theorem qS9 {a:Int} {k:Nat} (h:wl a.natAbs≤k):(itx a).size≤32*k+2:=by
 have h1:=qg0 a.natAbs
 have h2:=qD0 a.natAbs
 have h3:=qH0 a
 rw [h3]
 have:32*wl a.natAbs≤32*k:=Nat.mul_le_mul_left _ h
 split <;> omega
theorem xa3 {n k:Nat} (h:wl n≤k):(⟨(Lib.decDigits n).toArray⟩:ByteArray).size≤32*k+1:=by
 have h1:=qg0 n
 have h2:=qD0 n
 rw [qE1,Lib.decDigits_length]
 have:32*wl n≤32*k:=Nat.mul_le_mul_left _ h
 omega
theorem qG0 (a b:ByteArray):(a ++ b).size=a.size+b.size:=by simp
theorem qy_ (q:Rat) (w:World) (hs:sz q≤100000) (HT:Hid (Tab w)) :
  Calls Tryz.prog 153 #[(Value.agg #[.int .u64 (lo q.num.natAbs),.string (bg q.num.natAbs),.bool (q.num<0),.int .u64 (lo (q.den - 1)),.string (bg (q.den - 1))])] w fun e w'=>e=.returned (.string (ftx q))∧Below w.heap.size w w':=by
 unfold ftx
 by_cases h:q.den=1
 ·rw [if_pos h]
  exact xm8 q _ w hs (lh_ rfl) (lh_ h) HT
 ·rw [if_neg h]
  have h1:=qS9 (Nat.le_trans (qc3 q) hs)
  have h2:=xa3 (Nat.le_trans (qb_ q) hs)
  exact xm7 q _ _ _ _ w hs (lh_ rfl) (lh_ h) (lh_ rfl) (lh_ rfl) (lh_ rfl) om (by rw [qG0];have:(⟨#[47]⟩:ByteArray).size=1:=rfl;omega) om HT
theorem xp8 (q:Rat) (tx:ByteArray) (va1 va2:Value) (w:World) (HTX:Hid (itx q.num=tx)) (hs_q:rz q≤1000000) (HW:Hid (q.den=1)) (bx21:Rn w va1 q.num.natAbs) (bx22:Rn w va2 (q.den - 1)) :
  Calls Tryz.prog 174 #[(Value.agg #[.bool (decide (q.num<0)),va1,va2])] w fun e w'=>e=.returned ((.string tx))∧Below w.heap.size w w':=by
 have hn_q:tw q.num.natAbs≤1000000:=Nat.le_trans (qg8 q) hs_q
 have hd_q:tw (q.den)≤1000000:=Nat.le_trans (qd5 q) hs_q
 obtain ⟨ao_va1,n_va1,c_va1,rfl⟩:=Rn.sl bx21
 obtain ⟨ao_va2,n_va2,c_va2,rfl⟩:=Rn.sl bx22
 go_enter Tryz.func174,Tryz.ntmps174
 have I:=lh_ (hp0 w)
 replace I:=lh_ ((I.out.ar bx21).ar bx22)
 simp only [lF,lG] at I
 clear bx21 bx22
 refine kS fun K O=>?_
 refine wp_region_lit ?_
 go_wp2
 refine kF_ O ((I.out).aL (w.heap.size)) fun Wx0 J=>?_;clear O K
 clear I;have I:=J;clear J
 refine wp_seq ?_
 have hlz:((n_va2:Int) == 0)=true:=by have hl:=Rn.len (I.out.rn 1 rfl);have h9:=HW.out;rw [hl,h9,qh_];rfl
 have lx23:=kc2_ I
 refine ks4_ fun K O T Y=>?_
 iterate 4 refine tk ?_
 refine nlS Y I fun vw1 J=>?_
 clear Y T I lx23
 go_wp2
 refine kO O ?_;clear O K
 have I:=J;clear J
 clear hlz
 refine wp_cond_true (by rfl) ?_
 have lx23:=kc2_ I
 refine ks4_ fun K O T Y=>?_
 refine tk2_ ?_
 refine ck Tryz.call143 (fun w' hw=>qY_ (q.num) tx _ _ HTX.out (I.out.r 0 rfl hw) om) ?_
 refine tk ?_
 refine nlS Y I fun vw2 J=>?_
 clear Y T I lx23
 go_wp2
 refine kO O ?_;clear O K
 have I:=J;clear J
 refine wp_ret ?_
 try simp only [Exit.then,Exit.inBlock]
 exact bodyPost_ret (v:=.string tx) (by simp [results,Tryz.results174,go_sem]) rfl ⟨rfl,I.out.1⟩
theorem xp7 (q:Rat) (tx ty t1 tz:ByteArray) (va1 va2:Value) (w:World) (HTX:Hid (itx q.num=tx)) (hs_q:rz q≤1000000) (HW:Hid (¬ q.den=1)) (HTY:Hid ((⟨(Lib.decDigits (q.den)).toArray⟩:ByteArray)=ty)) (HC1:Hid (tx ++ (⟨#[47]⟩:ByteArray)=t1)) (HC2:Hid (t1 ++ ty=tz)) (hl1:tx.size≤100000000) (hl2:t1.size≤100000001) (hl3:ty.size≤100000000) (bx21:Rn w va1 q.num.natAbs) (bx22:Rn w va2 (q.den - 1)) :
  Calls Tryz.prog 174 #[(Value.agg #[.bool (decide (q.num<0)),va1,va2])] w fun e w'=>e=.returned ((.string tz))∧Below w.heap.size w w':=by
 have hn_q:tw q.num.natAbs≤1000000:=Nat.le_trans (qg8 q) hs_q
 have hd_q:tw (q.den)≤1000000:=Nat.le_trans (qd5 q) hs_q
 obtain ⟨ao_va1,n_va1,c_va1,rfl⟩:=Rn.sl bx21
 obtain ⟨ao_va2,n_va2,c_va2,rfl⟩:=Rn.sl bx22
 go_enter Tryz.func174,Tryz.ntmps174
 have I:=lh_ (hp0 w)
 replace I:=lh_ ((I.out.ar bx21).ar bx22)
 simp only [lF,lG] at I
 clear bx21 bx22
 refine kS fun K O=>?_
 refine wp_region_lit ?_
 go_wp2
 refine kF_ O ((I.out).aL (w.heap.size)) fun Wx0 J=>?_;clear O K
 clear I;have I:=J;clear J
 refine wp_seq ?_
 have hlz:((n_va2:Int) == 0)=false:=by have hl:=Rn.len (I.out.rn 1 rfl);have h9:=HW.out;have hp:=q.den_pos;have ht:0<tw (q.den - 1):=qI9 om;have h8:¬ (n_va2:Int)=0:=om;simpa using h8
 have lx23:=kc2_ I
 refine ks4_ fun K O T Y=>?_
 iterate 4 refine tk ?_
 refine nlS Y I fun vw1 J=>?_
 clear Y T I lx23
 go_wp2
 refine kO O ?_;clear O K
 have I:=J;clear J
 clear hlz
 refine wp_cond_false (by rfl) ?_
 refine wp_skip ?_
 show Code.wp _ _ _ _ _
 have hlen1:¬ (9223372036854775807<tx.size+1):=by omega
 have hcat1:tx ++ (⟨#[47]⟩:ByteArray)=t1:=HC1.out
 have HZ1:Hid (q.den=(q).den):=lh_ (rfl)
 have su1:tw (q.den)≤1000000:=by exact Nat.le_trans (qd5 _) om
 have hlen2:¬ (9223372036854775807<t1.size+ty.size):=by omega
 have hcat2:t1 ++ ty=tz:=HC2.out
 have lx23:=kc2_ I
 refine kS fun K O=>?_
 have HG0:Hid (Gr vw1 vw1):=lh_ (Gr.refl _)
 refine pd1_ fun T Y=>?_
 refine tk3_ ?_
 refine ck Tryz.call143 (fun w' hw=>qY_ (q.num) tx _ _ HTX.out (I.out.r 0 rfl (HG0.out.trans hw)) om) ?_
 refine tk ?_
 refine qa2 rfl (by rfl) Tryz.call150 (by rfl) (fun w' hw=>(qi_ q (q.den) _ _ _ HZ1.out om (I.out.r 0 rfl (HG0.out.trans hw)) (I.out.r 1 rfl (HG0.out.trans hw))).mono ?_)
 rintro e vv25 ⟨⟨rv1,rfl,bx25⟩,hg0⟩
 obtain ⟨ao1,nn1,cc1,rfl⟩:=Rn.sl bx25
 refine ⟨_,rfl,hg0,?_⟩
 replace hg0:=Gr.trans hw hg0;clear hw
 replace HG0:=lh_ (HG0.out.trans hg0)
 have HGS:=lh_ hg0;clear hg0
 clear HGS
 have RN25:=lh_ bx25;clear bx25
 clear lx23;have lx23:=fun w' (h:Gr _ w')=>kc2_ I w' (HG0.out.trans h)
 simp only [Act.put,lA,lB,lC]
 refine ck Tryz.call177 (fun w' hw=>xD5 _ (q.den) ty _ HTY.out (RN25.out.gr hw) om) ?_
 refine tk ?_
 refine qa0 (Y.out _ _ ?_)
 intro G vw2 hg hf
 simp only [puts,Act.put,lA,lB,lC,lD,lE,↓reduceIte,Nat.reduceEqDiff]
 have J:=lh_ ((I.out.gr (HG0.out.trans hg)).ar (RN25.out.gr hg))
 simp only [zq1_,zq2_,zq3_,zq4_,lF,lG] at J
 clear Y T I hg hf HG0 RN25 lx23
 go_wp2
 refine kF_ O (((((J.out).er 3).er 2).er 1).er 0) fun Wx3 I=>?_;clear O K
 clear J
 clear hlen1 hcat1 hlen2 hcat2
 refine wp_ret ?_
 try simp only [Exit.then,Exit.inBlock]
 exact bodyPost_ret (v:=.string tz) (by simp [results,Tryz.results174,go_sem]) rfl ⟨rfl,I.out.1⟩
theorem qK8 {a:Int} {k:Nat} (h:tw a.natAbs≤k):(itx a).size≤14*k+2:=by
 have h1:=qg0 a.natAbs
 have h2:=xo1 a.natAbs
 have h3:=qH0 a
 rw [h3]
 have:14*tw a.natAbs≤14*k:=Nat.mul_le_mul_left _ h
 split <;> omega
theorem qQ8 {n k:Nat} (h:tw n≤k):(⟨(Lib.decDigits n).toArray⟩:ByteArray).size≤14*k+1:=by
 have h1:=qg0 n
 have h2:=xo1 n
 rw [qE1,Lib.decDigits_length]
 have:14*tw n≤14*k:=Nat.mul_le_mul_left _ h
 omega
theorem qV3 (q:Rat) (va1 va2:Value) (w:World) (hs:rz q≤1000000) (h1:Rn w va1 q.num.natAbs) (h2:Rn w va2 (q.den - 1)) :
  Calls Tryz.prog 174 #[.agg #[.bool (decide (q.num<0)),va1,va2]] w fun e w'=>e=.returned (.string (ftx q))∧Below w.heap.size w w':=by
 unfold ftx
 by_cases h:q.den=1
 ·rw [if_pos h]
  exact xp8 q _ va1 va2 w (lh_ rfl) hs (lh_ h) h1 h2
 ·rw [if_neg h]
  have e1:=qK8 (Nat.le_trans (qg8 q) hs)
  have e2:=qQ8 (Nat.le_trans (qd5 q) hs)
  exact xp7 q _ _ _ _ va1 va2 w (lh_ rfl) hs (lh_ h) (lh_ rfl) (lh_ rfl) (lh_ rfl) om (by rw [qG0];have:(⟨#[47]⟩:ByteArray).size=1:=rfl;omega) om h1 h2
end
section
open Go.RowKit
attribute [local go_sem ↓] Go.wp_at_zero Go.wp_at_succ
attribute [local go_sem ↓] qb8 qa3 qc8
end
section
open Go.RowKit
attribute [local go_sem ↓] Go.wp_at_zero Go.wp_at_succ
end
section
open Go.RowKit
attribute [local go_sem ↓] Go.wp_at_zero Go.wp_at_succ
attribute [local go_sem ↓] qb8 qa3 qc8
attribute [local go_sem] Instr.field asAgg
theorem qS0 (bbxn:Bool) (kxn kxd:Nat) (ao_xn:Option Addr) (c_xn:Nat) (ao_xd:Option Addr) (c_xd:Nat) (w:World)  :
  Calls Tryz.prog 112 #[(Value.agg #[.bool bbxn,(.slice ao_xn kxn c_xn),(.slice ao_xd kxd c_xd)])] w fun e w'=>e=.returned ((.agg #[.bool false,.slice ao_xd kxd c_xd]))∧Below w.heap.size w w':=by
 go_enter Tryz.func112,Tryz.ntmps112
 have I:=lh_ (hp0 w)
 refine kS fun K O=>?_
 refine wp_region_lit ?_
 go_wp2
 refine kF_ O (((I.out).aL (w.heap.size)).aL (w.heap.size+1)) fun Wx0 J=>?_;clear O K
 clear I;have I:=J;clear J
 generalize w.heap.size+1=gx1 at *
 have lx0:=kc0_ I
 refine ks3_ fun K O T Y=>?_
 refine tk3_ ?_
 refine nlS Y I fun vw1 J=>?_
 clear Y T I lx0
 have lx1:=kc1_ J;have fx1:=kf1_ J
 have r0:=Gr.refl vw1
 go_wp2
 refine kO O ?_;clear O K
 clear r0 lx1 fx1
 refine fH (((J.out).put2 1 0 rfl).er 0) fun Wx1 I=>?_
 clear J
 refine wp_ret ?_
 try simp only [Exit.then,Exit.inBlock]
 have lx1:=kc0_ I
 have r0:=Gr.refl Wx1
 exact bodyPost_ret (v:=.agg #[.bool false,(.slice ao_xd kxd c_xd)]) (by simp [results,Tryz.results112,go_sem,lx1 _ r0]) rfl ⟨rfl,I.out.1⟩
theorem xb8 (b:Bool) (u v:Value) {ao:Option Addr} {k c:Nat} {ao':Option Addr} {k' c':Nat} (w:World) (hu:u=.slice ao k c:=by rfl) (hv:v=.slice ao' k' c':=by rfl) :
  Calls Tryz.prog 112 #[.agg #[.bool b,u,v]] w fun e w'=>e=.returned (.agg #[.bool false,v])∧Below w.heap.size w w':=by
 subst hu hv
 exact qS0 b k k' ao c ao' c' w
theorem qC3 (bbxn:Bool) (kxn:Nat) (fxn:Nat→Nat) (mxn:Nat) (ixn:Int) (kxd:Nat) (fxd:Nat→Nat) (mxd:Nat) (q:Rat) (ao_xn:Option Addr) (c_xn:Nat) (ao_xd:Option Addr) (c_xd:Nat) (w:World) (HWxn:Hid (Wa w (.slice ao_xn kxn c_xn) kxn fxn)) (HFxn:Hid (∀ i,i<kxn→fxn i<4294967296)) (HVxn:Hid (vl fxn kxn=mxn)) (HAxn:Hid ((if bbxn then -((mxn:Nat):Int) else ((mxn:Nat):Int))=ixn)) (HWxd:Hid (Wa w (.slice ao_xd kxd c_xd) kxd fxd)) (HFxd:Hid (∀ i,i<kxd→fxd i<4294967296)) (HVxd:Hid (vl fxd kxd=mxd)) (HQx:Hid (mkRat ixn (mxd+1)=q)) (hkn:kxn≤100) (hmn:wl mxn≤100) (hkd:kxd≤100) (hmd:wl mxd≤100) :
  Calls Tryz.prog 35 #[(Value.agg #[.bool bbxn,(.slice ao_xn kxn c_xn),(.slice ao_xd kxd c_xd)])] w fun e w'=>e=.returned (.agg #[.int .u64 (lo q.num.natAbs),.string (bg q.num.natAbs),.bool (q.num<0),.int .u64 (lo (q.den - 1)),.string (bg (q.den - 1))])∧Below w.heap.size w w':=by
 have hin_:wl (Int.natAbs ixn)≤100:=by rw [qB2 HAxn.out];exact hmn
 have hmi:wl (Int.natAbs (mxd:Int))≤100:=by rw [Int.natAbs_natCast];exact hmd
 have hmt:tw (Int.natAbs (mxd:Int))≤300:=by rw [Int.natAbs_natCast];have:=xI2 mxd;omega
 go_enter Tryz.func35,Tryz.ntmps35
 have I:=lh_ (hp0 w)
 refine kS fun K O=>?_
 refine wp_region_lit ?_
 go_wp2
 refine kF_ O (((I.out).aL (w.heap.size)).aL (w.heap.size+1)) fun Wx0 J=>?_;clear O K
 clear I;have I:=J;clear J
 generalize w.heap.size+1=gx1 at *
 have HB:=HPb I
 have su_0_1:wl 1≤1:=qb1.2 (by decide +kernel)
 obtain ⟨u1,HZ1⟩:∃ z,Hid ((Int.natAbs ((mxd:Int)))+(1)=z):=⟨_,lh_ rfl⟩
 have su1:wl u1≤101:=by rw [← HZ1.out];have:=ql1 (Int.natAbs ((mxd:Int))) (1);omega
 have HZ2:Hid (mkRat ixn u1=q):=lh_ (by rw [← HQx.out];simp only [← HZ1.out];rfl)
 have su2:sz q≤101:=by have e:=HZ2.out;first|omega|(rw [← e];exact qj1 (k:=101) om om (by decide))
 have lx0:=kc0_ I
 refine kS fun K O=>?_
 refine qa1 14 [13] [12] (fun _=>3) (fun _=>.cells #[.int .u64 0,.string ⟨#[]⟩,.bool false,.int .u64 0,.string ⟨#[]⟩] 36) [(true,0),(true,1),(true,3),(true,2),(true,4),(true,5),(true,6),(true,7),(true,8),(true,9),(true,10),(true,11),(true,12)] (by kernel_rfl) (by kernel_rfl) (by intro i hi;simp only [List.mem_cons,List.not_mem_nil,or_false] at hi;rcases hi with rfl <;> exact ⟨_,rfl,rfl,rfl,by simp,fun ρ w=>by kernel_rfl⟩) (by intro i hi;simp only [List.mem_cons,List.not_mem_nil,or_false] at hi;rcases hi with rfl <;> exact ⟨_,rfl,qa_⟩) (fun _ _ _ _ _ h=>h) (fun T Y=>?_)
 refine tk3_ ?_
 refine ck Tryz.call32 (fun w' hw=>zlof bbxn kxn fxn mxn ixn ao_xn c_xn w' (lh_ (HWxn.out.gr (Gr.trans HB.out hw))) HFxn HVxn HAxn om om) ?_
 refine ck Tryz.call112 (fun w' hw=>xb8 bbxn (.slice ao_xn kxn c_xn) (.slice ao_xd kxd c_xd) _) ?_
 refine ck Tryz.call32 (fun w' hw=>zlof false kxd fxd mxd (mxd:Int) ao_xd c_xd w' (lh_ (HWxd.out.gr (Gr.trans HB.out hw))) HFxd HVxd (lh_ rfl) om om) ?_
 refine ck Tryz.call100 (fun w' hw=>qf2 ((mxd:Int)) _) ?_
 refine ck Tryz.call24 (fun w' hw=>nzof 1 _ (by decide)) ?_
 refine ck Tryz.call109 (fun w' hw=>xx6 (Int.natAbs ((mxd:Int))) (1) u1 _ HZ1.out om om) ?_
 refine ck Tryz.call102 (fun w' hw=>qv9 ixn u1 q _ (lh_ HZ2.out) (by simp only [← HZ1.out];omega) om om) ?_
 refine tk3_ ?_
 refine qa0 (Y.out _ _ ?_)
 intro G vw1 hg hf
 simp only [puts,Act.put,lA,lB,lC,lD,lE,↓reduceIte,Nat.reduceEqDiff]
 have J:=lh_ (I.out.fr hg hf (zs:=[(#[.int .u64 0,.string ⟨#[]⟩,.bool false,.int .u64 0,.string ⟨#[]⟩],36)]) rfl (by decide) (by decide))
 simp only [zq1_,zq2_,zq3_,zq4_,lF,lG] at J
 clear Y T I hg hf lx0 HB
 generalize G 13=gx3 at *
 have lx3:=kc2_ J;have fx3:=kf2_ J
 have r0:=Gr.refl vw1
 go_wp2
 refine kO O ?_;clear O K
 clear r0 lx3 fx3
 refine fH (((((J.out).put2 2 0 rfl).put2 2 2 rfl).put 2 4 _ rfl).er 0) fun Wx1 I=>?_
 clear J
 have lx3:=kc1_ I
 refine ks1_ fun K O T Y=>?_
 refine tk ?_
 refine nlS Y I fun vw2 J=>?_
 clear Y T I lx3
 have lx1:=kc0_ J;have fx1:=kf0_ J
 have r0:=Gr.refl vw2
 go_wp2
 refine kO O ?_;clear O K
 clear r0 lx1 fx1
 refine fH (((((J.out).put2 0 0 rfl).put2 0 2 rfl).put 0 4 _ rfl).er 1) fun Wx2 I=>?_
 clear J
 refine wp_ret ?_
 try simp only [Exit.then,Exit.inBlock]
 have lx1:=kc0_ I
 have r0:=Gr.refl Wx2
 exact bodyPost_ret (v:=.agg #[.int .u64 (lo q.num.natAbs),.string (bg q.num.natAbs),.bool (q.num<0),.int .u64 (lo (q.den - 1)),.string (bg (q.den - 1))]) (by simp [results,Tryz.results35,go_sem,lx1 _ r0]) rfl ⟨rfl,I.out.1⟩
theorem xw0 (q:Rat) (va1 va2:Value) (w:World) (hs:sz q≤100000) (hr:rz q≤1000000) (bx21:Rn w va1 q.num.natAbs) (bx22:Rn w va2 (q.den - 1)) (HT:Hid (Tab w)) :
  Calls Tryz.prog 66 #[(Value.agg #[.int .u64 (lo q.num.natAbs),.string (bg q.num.natAbs),.bool (q.num<0),.int .u64 (lo (q.den - 1)),.string (bg (q.den - 1))]),(Value.agg #[.bool (decide (q.num<0)),va1,va2])] w fun e w'=>e=.returned ((.bool true))∧Below w.heap.size w w':=by
 obtain ⟨ao_va1,n_va1,c_va1,rfl⟩:=Rn.sl bx21
 obtain ⟨ao_va2,n_va2,c_va2,rfl⟩:=Rn.sl bx22
 go_enter Tryz.func66,Tryz.ntmps66
 have I:=lh_ (hp0 w)
 replace I:=lh_ ((I.out.ar bx21).ar bx22)
 simp only [lF,lG] at I
 clear bx21 bx22
 refine kS fun K O=>?_
 refine wp_region_lit ?_
 go_wp2
 refine kF_ O (((I.out).aL (w.heap.size)).aL (w.heap.size+1)) fun Wx0 J=>?_;clear O K
 clear I;have I:=J;clear J
 generalize w.heap.size+1=gx24 at *
 have HB:=HPb I
 have hse:((ftx q).toList == (ftx q).toList)=true:=by simp
 have lx23:=kc2_ I
 have lx24:=kc3_ I
 refine kS fun K O=>?_
 refine pd2_ fun T Y=>?_
 refine tk2_ ?_
 refine ck Tryz.call153 (fun w' hw=>qy_ q _ om (lh_ (HT.out.gr (Gr.trans HB.out hw)))) ?_
 refine ck Tryz.call174 (fun w' hw=>qV3 q _ _ _ om (I.out.r 0 rfl hw) (I.out.r 1 rfl hw)) ?_
 refine tk ?_
 refine nlD Y I fun vw1 J=>?_
 clear Y T I lx23 lx24 HB
 go_wp2
 refine kF_ O (((((J.out).er 3).er 2).er 1).er 0) fun Wx1 I=>?_;clear O K
 clear J
 clear hse
 refine wp_ret ?_
 try simp only [Exit.then,Exit.inBlock]
 exact bodyPost_ret (v:=.bool true) (by simp [results,Tryz.results66,go_sem]) rfl ⟨rfl,I.out.1⟩
end
section
open Go.RowKit
theorem HP.grS {w0 W W':World} {L:List Fk} {b T:Nat} {cs:Array Value} (h:HP w0 W L) (g:Gr W W') (hle:W.heap.size≤b) (hb:Bx W' b T cs) (Y:T≠3):HP w0 W' (L ++ [Sum.inl (b,T,cs)]) :=
 (h.gr g).add hb Y (Nat.le_trans h.1.size hle) (fun i x hx=>by have:=h.lt i x hx;omega)
end
end Go.Proofs.YtobojnodohjiaaaGreatDoor
