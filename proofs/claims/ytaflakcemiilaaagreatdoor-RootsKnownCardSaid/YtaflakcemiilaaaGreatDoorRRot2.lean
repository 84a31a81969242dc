
/- gussetref05.Below. -/
import Derived.Test.YtaflakcemiilaaaGreatDoorRRot1
set_option maxRecDepth 100000
set_option maxHeartbeats 16000000
set_option linter.unusedVariables false
set_option linter.unusedSimpArgs false
namespace Go.Proofs.YtaflakcemiilaaaGreatDoor
open Go.RowKit
attribute [local go_sem ↓] Go.wp_at_zero Go.wp_at_succ
attribute [local go_sem ↓] qd6 qa7 qf4
theorem lw_e {i j:Nat} {e e':Rat} (h:tq i*hq j=e) (h2:e*(1 / 2:Rat)=e'):tq i*hq (j+1)=e':=by rw [qn8,← Rat.mul_assoc,h,h2]
theorem xC8 {m:Nat} {e e' o n:Rat} (h:(((m:Nat):Int):Rat)*(2*e)=o) (h2:o+e=n) (h3:e*(1 / 2:Rat)=e'):(((2*m+1:Nat):Int):Rat)*(2*e')=n:=by
 have e1:(((2*m+1:Nat):Int):Rat)=2*(((m:Nat):Int):Rat)+1:=by
  rw [Int.natCast_add,Rat.intCast_add,Int.natCast_mul,Rat.intCast_mul];rfl
 rw [e1,← h3,← h2,← h];grind
theorem xF0 {m:Nat} {e e' o:Rat} (h:(((m:Nat):Int):Rat)*(2*e)=o) (h3:e*(1 / 2:Rat)=e'):(((2*m:Nat):Int):Rat)*(2*e')=o:=by
 have e1:(((2*m:Nat):Int):Rat)=2*(((m:Nat):Int):Rat):=by rw [Int.natCast_mul,Rat.intCast_mul];rfl
 rw [e1,← h3,← h];grind
theorem xF7 {a e e' o n:Rat} (h:a<(o+2*e)*(o+2*e)) (h2:o+e=n) (h3:e*(1 / 2:Rat)=e'):a<(n+2*e')*(n+2*e'):=by
 have e1:n+2*e'=o+2*e:=by grind
 rw [e1];exact h
theorem xG0 {a e e' o n:Rat} (h:¬ n*n≤a) (h2:o+e=n) (h3:e*(1 / 2:Rat)=e'):a<(o+2*e')*(o+2*e'):=by
 have e1:o+2*e'=n:=by grind
 rw [e1];grind
theorem xl_ (i j:Nat):tq i*hq (i+j)=hq j:=by
 have:=qs2 i
 rw [xi1]
 generalize hq i=x at *
 generalize tq i=y at *
 generalize hq j=z
 grind
theorem xF9 (d:Nat):hq d≤1:=by
 induction d with
 | zero=>rw [qG2];exact Rat.le_refl
 | succ d ih=>rw [qn8];have:=qm0 d;grind
theorem xE2 {i j k:Nat} (h:j≤i+k):¬ tq i*hq j - hq k<0:=by
 obtain ⟨d,hd⟩:∃ d,i+k=j+d:=⟨i+k - j,by omega⟩
 have h1:=xl_ i k
 rw [hd,xi1] at h1
 rw [← h1]
 have h2:=Rat.mul_pos (qx4 i) (qm0 j)
 have h3:=xF9 d
 have h4:tq i*(hq j*hq d)=tq i*hq j*hq d:=by rw [Rat.mul_assoc]
 rw [h4]
 generalize tq i*hq j=x at *
 have h5:=Rat.mul_le_mul_of_nonneg_left h3 (Rat.le_of_lt h2)
 grind
theorem xy4 {i k:Nat}:tq i*hq (i+k+1) - hq k<0:=by
 rw [Nat.add_assoc,xl_,qn8]
 have:=qm0 k
 grind
theorem xB1 {i k:Nat}:2*(tq i*hq (i+k+1))=hq k:=by
 rw [Nat.add_assoc,xl_,qn8];grind
theorem xa4 {a o:Rat} {k:Nat} {m:Nat} (h:0≤a) (ho:o*tq k=(((m:Nat):Int):Rat)) (h1:o*o≤a) (h2:a<(o+hq k)*(o+hq k)):rlo a k=o:=by
 have h3:=qP0 (m:=((m:Nat):Int)) h ho h1
 have o0:0≤o:=qB3 (k:=k) (by rw [Rat.zero_mul,ho];exact qS2 m)
 have h4:rlo a k<o+hq k:=qH2 (qk8 a k) (by have:=qm0 k;grind) (by have:=qm1 h k;grind)
 have h5:=xg1 k h4
 rw [Rat.add_mul,qs2,qh3,ho] at h5
 have h6:(((rbn a k:Nat):Int):Rat)<((((m:Nat):Int)+1:Int):Rat):=by rw [Rat.intCast_add];exact h5
 rw [Rat.intCast_lt_intCast] at h6
 have h7:(((rbn a k:Nat):Int):Rat)≤(((m:Nat):Int):Rat):=Rat.intCast_le_intCast.2 om
 rw [← qh3,← ho] at h7
 have h8:=qB3 h7
 grind
theorem xt4 {a o e z:Rat} {i k m:Nat} (ha:0≤a) (he:tq i*hq (i+k+1)=e) (ho:(((m:Nat):Int):Rat)*(2*e)=o) (h1:o*o≤a) (h2:a<(o+2*e)*(o+2*e)) (hz:rlo a k=z):z=o:=by
 rw [← he,xB1] at ho h2
 rw [← hz]
 refine xa4 (m:=m) ha ?_ h1 h2
 rw [← ho,Rat.mul_assoc,qs2,Rat.mul_one]
theorem xD2 {m j:Nat} (h:m<2 ^ j):2*m+1<2 ^ (j+1):=by rw [Nat.pow_succ];omega
theorem xF5 {m j:Nat} (h:m<2 ^ j):2*m<2 ^ (j+1):=by rw [Nat.pow_succ];omega
theorem xA6 {i j:Nat} {e:Rat} (h:tq i*hq j=e) (hi:i≤40) (hj:j≤142):rz e≤16:=by
 rw [← h];have h1:=qk0 (tq i) (hq j);have h2:=xv0 hi;have h3:=xg2 hj;omega
theorem xx3 {m j:Nat} {e o:Rat} (h:(((m:Nat):Int):Rat)*(2*e)=o) (hm:m<2 ^ j) (hj:j≤142) (he:rz e≤16):rz o≤30:=by
 have h1:=qk0 (((m:Nat):Int):Rat) (2*e)
 have h2:=qk0 2 e
 have h3:rz (2:Rat)≤1:=qv_ (qg6.2 (by decide +kernel)) (qg6.2 (by decide +kernel))
 have h4:rz (((m:Nat):Int):Rat)≤12:=qv_ (by
  rw [show ((((m:Nat):Int):Rat)).num=((m:Nat):Int) from rfl,Int.natAbs_natCast]
  exact Nat.le_trans (qe1 (Nat.le_of_lt (Nat.lt_of_lt_of_le hm (Nat.pow_le_pow_right (by decide) hj)))) (qg6.2 (by decide +kernel))) (by show tw 1≤12;exact qg6.2 (by decide +kernel))
 rw [h] at h1
 omega
theorem xm9 {a:Rat} (h:¬ a<0):0≤sgQ a:=sgQ_nn0 (by grind)
theorem qW2 {x y:Rat} (h:x≤y):sgQ (x - y)≤0:=by
 rcases qg1 (x - y) with ⟨_,e⟩|⟨_,e⟩|⟨h1,_⟩
 ·rw [e];decide
 ·rw [e];decide
 ·exfalso;grind
theorem xw6 (i:Nat):tq (i+1)=tq i+tq i:=by
 rw [qy2 i 1]
 have e:tq 1=2:=by unfold tq;decide +kernel
 rw [e];grind
theorem qI3 (a st z:Rat) (k N:Nat) (va1 va2:Value) (w:World) (HA:Hid (0≤a)) (HAN:Hid (a<tq N*tq N)) (hN:N≤40) (HST:Hid (hq k=st)) (HZ:Hid (rlo a k=z)) (hk:k≤100) (hs:rz a≤1000) (bx21:Rn w va1 a.num.natAbs) (bx22:Rn w va2 (a.den - 1)) :
  Calls Tryz.prog 97 #[(Value.agg #[.bool (decide (a.num<0)),va1,va2]),.int .i64 (((k:Nat):Int))] w fun e w'=>(∃ r1 r2:Value,e=.returned (.agg #[.bool (decide (z.num<0)),r1,r2])∧Rn w' r1 z.num.natAbs∧Rn w' r2 (z.den - 1))∧Below w.heap.size w w':=by
 obtain ⟨ao_va1,n_va1,c_va1,rfl⟩:=Rn.sl bx21
 obtain ⟨ao_va2,n_va2,c_va2,rfl⟩:=Rn.sl bx22
 go_enter Tryz.func97,Tryz.ntmps97
 have I:=lh_ (hp0 w)
 replace I:=lh_ ((I.out.ar bx21).ar bx22)
 simp only [lF,lG] at I
 clear bx21 bx22
 refine kS fun K O=>?_
 refine wp_region_lit ?_
 go_wp2
 refine kF_ O (((I.out).aL (w.heap.size)).aL (w.heap.size+1)) fun Wx0 J=>?_;clear O K
 clear I;have I:=J;clear J
 generalize w.heap.size+1=gx24 at *
 refine kS fun K O=>?_
 refine wp_region_lit ?_
 go_wp2
 refine kF_ O ((I.out).aL (Wx0.heap.size)) fun Wx1 J=>?_;clear O K
 clear I;have I:=J;clear J
 generalize Wx0.heap.size=gx25 at *
 have HZ1:Hid (((1:Int):Rat)=(1:Rat)):=lh_ (by decide +kernel)
 have su1:rz ((1:Rat))≤5:=qv_ (qg6.2 (by decide +kernel)) (qg6.2 (by decide +kernel))
 refine kS fun K O=>?_
 have HG0:Hid (Gr Wx1 Wx1):=lh_ (Gr.refl _)
 refine qO_ fun T Y=>?_
 refine qa0 rfl (by rfl) Tryz.call161 (by rfl) (fun w' hw=>(qt2 (1) (1:Rat) _ HZ1.out om om).mono ?_)
 rintro e vv27 ⟨⟨rv1,rv2,rfl,bx27,bx28⟩,hg0⟩
 obtain ⟨ao1,nn1,cc1,rfl⟩:=Rn.sl bx27
 obtain ⟨ao2,nn2,cc2,rfl⟩:=Rn.sl bx28
 refine ⟨_,rfl,hg0,?_⟩
 replace hg0:=Gr.trans hw hg0;clear hw
 replace HG0:=lh_ (HG0.out.trans hg0)
 have HGS:=lh_ hg0;clear hg0
 clear HGS
 have RN27:=lh_ bx27;clear bx27
 have RN28:=lh_ bx28;clear bx28
 simp only [Act.put,lA,lB,lC]
 refine qa1 (Y.out _ _ ?_)
 intro vw1 hg
 simp only [puts,Act.put,lA,lB,lC,lD,lE,↓reduceIte,Nat.reduceEqDiff]
 have J:=lh_ (((I.out.gr (HG0.out.trans hg)).ar (RN27.out.gr hg)).ar (RN28.out.gr hg))
 simp only [zq1_,zq2_,zq3_,zq4_,lF,lG] at J
 clear Y T I hg HG0 RN27 RN28
 go_wp2
 refine kF_ O ((J.out).aL (vw1.heap.size)) fun Wx2 I=>?_;clear O K
 clear J
 generalize vw1.heap.size=gx29 at *
 refine wp_seq ?_
 refine wp_block ?_
 replace I:=lh_ ((I.out.er 5).ar (I.out.rn 5 rfl))
 simp only [List.eraseIdx_cons_zero,List.eraseIdx_cons_succ,List.cons_append,List.nil_append] at I
 replace I:=lh_ ((I.out.er 5).ar (I.out.rn 5 rfl))
 simp only [List.eraseIdx_cons_zero,List.eraseIdx_cons_succ,List.cons_append,List.nil_append] at I
 go_loopg [] N (fun kk wr=>∃ (i:Nat) (q:Rat) (vA1 vA2:Value),i+kk=N∧Hid (tq i=q)∧Hid (HP w wr [Sum.inr ((.slice ao_va1 n_va1 c_va1),Int.natAbs (a.num)),Sum.inr ((.slice ao_va2 n_va2 c_va2),a.den - 1),Sum.inl (w.heap.size,47,#[.bool (decide (a.num<0)),(.slice ao_va1 n_va1 c_va1),(.slice ao_va2 n_va2 c_va2)]),Sum.inl (gx24,47,#[.bool false,.slice none 0 0,.slice none 0 0]),Sum.inl (gx25,47,#[.bool false,.slice none 0 0,.slice none 0 0]),Sum.inl (gx29,47,#[.bool (decide (q.num<0)),vA1,vA2]),Sum.inr (vA1,Int.natAbs (q.num)),Sum.inr (vA2,q.den - 1)]))
 case atStart=>exact ⟨0,1,_,_,by omega,lh_ (by unfold tq;decide +kernel),I⟩
 case round =>
  rename_i J_ K_ hj1_ hj0_
  clear I
  obtain ⟨i,q,vA1,vA2,hik,HQ,I⟩:=hrel
  obtain ⟨aoA1,nnA1,ccA1,rfl⟩:=Rn.sl (I.out.rn 6 rfl)
  obtain ⟨aoA2,nnA2,ccA2,rfl⟩:=Rn.sl (I.out.rn 7 rfl)
  have hi:i≤40:=by omega
  have hsq:rz q≤4:=by rw [← HQ.out];exact xv0 hi
  obtain ⟨c,HC⟩:∃ z,Hid (sgQ (q*q - a)=z):=⟨_,lh_ rfl⟩
  by_cases hle:q*q≤a
  ·have hne:¬ i=N:=fun e=>by
    have h9:=HAN.out
    rw [← e,HQ.out] at h9
    exact absurd hle (Rat.not_le.2 h9)
   obtain ⟨kk,rfl⟩:∃ kk,gk=kk+1:=⟨gk - 1,by omega⟩
   obtain ⟨q',HQ'⟩:∃ z,Hid (q+q=z):=⟨_,lh_ rfl⟩
   have hc:c≤0:=by rw [← HC.out];exact qW2 hle
   clear hle hne
   refine wp_seq ?_
   obtain ⟨u2,HZ2⟩:∃ z,Hid (q*(q)=z):=⟨_,lh_ rfl⟩
   have su2:rz u2≤8:=by rw [← HZ2.out];have:=qk0 q q;omega
   have lx23:=c2_ I
   have lx29:=c5_ I
   refine kS fun K O=>?_
   have HG0:Hid (Gr wr wr):=lh_ (Gr.refl _)
   refine xc1 fun T Y=>?_
   refine tk2_ ?_
   refine qa0 rfl (by rfl) Tryz.call99 (by rfl) (fun w' hw=>(qh6 q u2 _ _ _ (lh_ HZ2.out) om (I.out.r 6 rfl (HG0.out.trans hw)) (I.out.r 7 rfl (HG0.out.trans hw))).mono ?_)
   rintro e vv30 ⟨⟨rv3,rv4,rfl,bx30,bx31⟩,hg0⟩
   obtain ⟨ao3,nn3,cc3,rfl⟩:=Rn.sl bx30
   obtain ⟨ao4,nn4,cc4,rfl⟩:=Rn.sl bx31
   refine ⟨_,rfl,hg0,?_⟩
   replace hg0:=Gr.trans hw hg0;clear hw
   replace HG0:=lh_ (HG0.out.trans hg0)
   have HGS:=lh_ hg0;clear hg0
   clear HGS
   have RN30:=lh_ bx30;clear bx30
   have RN31:=lh_ bx31;clear bx31
   clear lx23;have lx23:=fun w' (h:Gr _ w')=>c2_ I w' (HG0.out.trans h)
   clear lx29;have lx29:=fun w' (h:Gr _ w')=>c5_ I w' (HG0.out.trans h)
   simp only [Act.put,lA,lB,lC]
   refine ck Tryz.call130 (fun w' hw=>qi7 u2 a c _ _ _ _ _ (by simp only [← HZ2.out];exact HC.out) om om (RN30.out.gr hw) (RN31.out.gr hw) (I.out.r 0 rfl (HG0.out.trans hw)) (I.out.r 1 rfl (HG0.out.trans hw))) ?_
   refine qa1 (Y.out _ _ ?_)
   intro G vw2 hg hf
   simp only [puts,Act.put,lA,lB,lC,lD,lE,↓reduceIte,Nat.reduceEqDiff]
   have J:=lh_ (((I.out.gr (HG0.out.trans hg)).ar (RN30.out.gr hg)).ar (RN31.out.gr hg))
   simp only [zq1_,zq2_,zq3_,zq4_,lF,lG] at J
   clear Y T I hg hf HG0 RN30 RN31 lx23 lx29
   have hcc:c≤0:=by omega
   go_wp2
   refine kO O ?_;clear O K
   have I:=J;clear J
   clear hcc
   refine wp_cond_true (by rfl) ?_
   refine wp_skip ?_
   show Code.wp _ _ _ _ _
   refine wp_block ?_
   have HZ3:Hid (q+(q)=q'):=lh_ (HQ'.out)
   have su3:rz q'≤10:=by have e:=HZ3.out;first|omega|(rw [← e];have:=qA_ q q;omega)
   have lx29:=c5_ I
   refine kL fun K O=>?_
   have HG0:Hid (Gr vw2 vw2):=lh_ (Gr.refl _)
   refine qq9 fun T Y=>?_
   refine tk2_ ?_
   refine qa0 rfl (by rfl) Tryz.call100 (by rfl) (fun w' hw=>(qq1 q q q' _ _ _ _ _ HZ3.out om om (I.out.r 6 rfl (HG0.out.trans hw)) (I.out.r 7 rfl (HG0.out.trans hw)) (I.out.r 6 rfl (HG0.out.trans hw)) (I.out.r 7 rfl (HG0.out.trans hw))).mono ?_)
   rintro e vv32 ⟨⟨rv5,rv6,rfl,bx32,bx33⟩,hg0⟩
   obtain ⟨ao5,nn5,cc5,rfl⟩:=Rn.sl bx32
   obtain ⟨ao6,nn6,cc6,rfl⟩:=Rn.sl bx33
   refine ⟨_,rfl,hg0,?_⟩
   replace hg0:=Gr.trans hw hg0;clear hw
   replace HG0:=lh_ (HG0.out.trans hg0)
   have HGS:=lh_ hg0;clear hg0
   clear HGS
   have RN32:=lh_ bx32;clear bx32
   have RN33:=lh_ bx33;clear bx33
   clear lx29;have lx29:=fun w' (h:Gr _ w')=>c5_ I w' (HG0.out.trans h)
   simp only [Act.put,lA,lB,lC]
   refine qa1 (Y.out _ _ ?_)
   intro vw3 hg
   simp only [puts,Act.put,lA,lB,lC,lD,lE,↓reduceIte,Nat.reduceEqDiff]
   have J:=lh_ (((I.out.gr (HG0.out.trans hg)).ar (RN32.out.gr hg)).ar (RN33.out.gr hg))
   simp only [zq1_,zq2_,zq3_,zq4_,lF,lG] at J
   clear Y T I hg HG0 RN32 RN33 lx29
   have lx29:=c5_ J;have fx29:=f5_ J
   have r0:=Gr.refl vw3
   go_wp2
   refine O.out _ _ ?_;clear O K
   try simp only [Exit.then,Exit.inBlock]
   clear r0 lx29 fx29
   have I:=lh_ (((J.out).put2 (u1:=.bool (decide (q'.num<0))) (u2:=(.slice ao5 nn5 cc5)) 5 0 rfl).put 5 2 ((.slice ao6 nn6 cc6)) rfl);clear J
   refine hj0_ _ _ ?_
   go_roundg kk
   case measure=>omega
   case rel=>exact ⟨i+1,q',_,_,by omega,lh_ (by rw [← HQ'.out,← HQ.out];exact xw6 i),lh_ (((((I.out).er 9).er 8).er 7).er 6)⟩
  ·have HLT:Hid (a<q*q):=lh_ (Rat.not_le.1 hle)
   have hc:¬ c≤0:=by rw [← HC.out,qh9 (by have:=HLT.out;grind)];decide
   clear hle hik
   refine wp_seq ?_
   obtain ⟨u2,HZ2⟩:∃ z,Hid (q*(q)=z):=⟨_,lh_ rfl⟩
   have su2:rz u2≤8:=by rw [← HZ2.out];have:=qk0 q q;omega
   have lx23:=c2_ I
   have lx29:=c5_ I
   refine kS fun K O=>?_
   have HG0:Hid (Gr wr wr):=lh_ (Gr.refl _)
   refine xc1 fun T Y=>?_
   refine tk2_ ?_
   refine qa0 rfl (by rfl) Tryz.call99 (by rfl) (fun w' hw=>(qh6 q u2 _ _ _ (lh_ HZ2.out) om (I.out.r 6 rfl (HG0.out.trans hw)) (I.out.r 7 rfl (HG0.out.trans hw))).mono ?_)
   rintro e vv30 ⟨⟨rv3,rv4,rfl,bx30,bx31⟩,hg0⟩
   obtain ⟨ao3,nn3,cc3,rfl⟩:=Rn.sl bx30
   obtain ⟨ao4,nn4,cc4,rfl⟩:=Rn.sl bx31
   refine ⟨_,rfl,hg0,?_⟩
   replace hg0:=Gr.trans hw hg0;clear hw
   replace HG0:=lh_ (HG0.out.trans hg0)
   have HGS:=lh_ hg0;clear hg0
   clear HGS
   have RN30:=lh_ bx30;clear bx30
   have RN31:=lh_ bx31;clear bx31
   clear lx23;have lx23:=fun w' (h:Gr _ w')=>c2_ I w' (HG0.out.trans h)
   clear lx29;have lx29:=fun w' (h:Gr _ w')=>c5_ I w' (HG0.out.trans h)
   simp only [Act.put,lA,lB,lC]
   refine ck Tryz.call130 (fun w' hw=>qi7 u2 a c _ _ _ _ _ (by simp only [← HZ2.out];exact HC.out) om om (RN30.out.gr hw) (RN31.out.gr hw) (I.out.r 0 rfl (HG0.out.trans hw)) (I.out.r 1 rfl (HG0.out.trans hw))) ?_
   refine qa1 (Y.out _ _ ?_)
   intro G vw2 hg hf
   simp only [puts,Act.put,lA,lB,lC,lD,lE,↓reduceIte,Nat.reduceEqDiff]
   have J:=lh_ (((I.out.gr (HG0.out.trans hg)).ar (RN30.out.gr hg)).ar (RN31.out.gr hg))
   simp only [zq1_,zq2_,zq3_,zq4_,lF,lG] at J
   clear Y T I hg hf HG0 RN30 RN31 lx23 lx29
   have hcc:¬ c≤0:=by omega
   go_wp2
   refine kO O ?_;clear O K
   have I:=J;clear J
   clear hcc
   refine wp_cond_false (by rfl) ?_
   refine wp_exit ?_
   show Code.wp _ _ _ _ _
   have HZ3:Hid (hq k=st):=lh_ (HST.out)
   have su3:rz st≤12:=by have e:=HZ3.out;first|omega|(rw [← e];exact xg2 om)
   refine kS fun K O=>?_
   have HG0:Hid (Gr vw2 vw2):=lh_ (Gr.refl _)
   refine xo1 fun T Y=>?_
   refine tk ?_
   refine qa0 rfl (by rfl) Tryz.call101 (by rfl) (fun w' hw=>(qD4 st k _ (lh_ HZ3.out) om).mono ?_)
   rintro e vv32 ⟨⟨rv5,rv6,rfl,bx32,bx33⟩,hg0⟩
   obtain ⟨ao5,nn5,cc5,rfl⟩:=Rn.sl bx32
   obtain ⟨ao6,nn6,cc6,rfl⟩:=Rn.sl bx33
   refine ⟨_,rfl,hg0,?_⟩
   replace hg0:=Gr.trans hw hg0;clear hw
   replace HG0:=lh_ (HG0.out.trans hg0)
   have HGS:=lh_ hg0;clear hg0
   clear HGS
   have RN32:=lh_ bx32;clear bx32
   have RN33:=lh_ bx33;clear bx33
   simp only [Act.put,lA,lB,lC]
   refine qa1 (Y.out _ _ ?_)
   intro vw3 hg
   simp only [puts,Act.put,lA,lB,lC,lD,lE,↓reduceIte,Nat.reduceEqDiff]
   have J:=lh_ (((I.out.gr (HG0.out.trans hg)).ar (RN32.out.gr hg)).ar (RN33.out.gr hg))
   simp only [zq1_,zq2_,zq3_,zq4_,lF,lG] at J
   clear Y T I hg HG0 RN32 RN33
   go_wp2
   refine kF_ O ((((J.out).aL (vw3.heap.size)).er 9).er 8) fun Wx5 I=>?_;clear O K
   clear J
   generalize vw3.heap.size=gx34 at *
   refine wp_seq ?_
   refine wp_block ?_
   replace I:=lh_ ((I.out.ar (Rn.zero _)).ar (Rn.zero _))
   simp only [List.eraseIdx_cons_zero,List.eraseIdx_cons_succ,List.cons_append,List.nil_append] at I
   replace I:=lh_ ((I.out.er 6).ar (I.out.rn 6 rfl))
   simp only [List.eraseIdx_cons_zero,List.eraseIdx_cons_succ,List.cons_append,List.nil_append] at I
   replace I:=lh_ ((I.out.er 6).ar (I.out.rn 6 rfl))
   simp only [List.eraseIdx_cons_zero,List.eraseIdx_cons_succ,List.cons_append,List.nil_append] at I
   go_loopg [] (i+k+1) (fun kk wr=>∃ (j m:Nat) (o ee:Rat) (vB1 vB2 vD1 vD2:Value),j+kk=i+k+1∧m<2 ^ j∧Hid (tq i*hq j=ee)∧Hid ((((m:Nat):Int):Rat)*(2*ee)=o)∧Hid (o*o≤a)∧Hid (a<(o+2*ee)*(o+2*ee))∧Hid (HP w wr [Sum.inr ((.slice ao_va1 n_va1 c_va1),Int.natAbs (a.num)),Sum.inr ((.slice ao_va2 n_va2 c_va2),a.den - 1),Sum.inl (w.heap.size,47,#[.bool (decide (a.num<0)),(.slice ao_va1 n_va1 c_va1),(.slice ao_va2 n_va2 c_va2)]),Sum.inl (gx24,47,#[.bool false,.slice none 0 0,.slice none 0 0]),Sum.inl (gx25,47,#[.bool (decide (o.num<0)),vB1,vB2]),Sum.inl (gx29,47,#[.bool (decide (ee.num<0)),vD1,vD2]),Sum.inr ((.slice ao5 nn5 cc5),Int.natAbs (st.num)),Sum.inr ((.slice ao6 nn6 cc6),st.den - 1),Sum.inl (gx34,47,#[.bool (decide (st.num<0)),(.slice ao5 nn5 cc5),(.slice ao6 nn6 cc6)]),Sum.inr (vB1,Int.natAbs (o.num)),Sum.inr (vB2,o.den - 1),Sum.inr (vD1,Int.natAbs (ee.num)),Sum.inr (vD2,ee.den - 1)]))
   case atStart=>exact ⟨0,0,0,q,_,_,_,_,by omega,by decide,lh_ (by rw [qG2,Rat.mul_one];exact HQ.out),lh_ (Rat.zero_mul _),lh_ (by rw [Rat.zero_mul];exact HA.out),lh_ (by have h9:=HLT.out;have h8:=qb7 q;grind),I⟩
   case round =>
    rename_i J_ K_ hm1_ hm0_
    clear I
    obtain ⟨j,m,o,ee,vB1,vB2,vD1,vD2,hjk,hmj,HE,HO,HO2,HOA,I⟩:=hrel
    obtain ⟨aoB1,nnB1,ccB1,rfl⟩:=Rn.sl (I.out.rn 9 rfl)
    obtain ⟨aoB2,nnB2,ccB2,rfl⟩:=Rn.sl (I.out.rn 10 rfl)
    obtain ⟨aoD1,nnD1,ccD1,rfl⟩:=Rn.sl (I.out.rn 11 rfl)
    obtain ⟨aoD2,nnD2,ccD2,rfl⟩:=Rn.sl (I.out.rn 12 rfl)
    have hj:j≤142:=by omega
    have hse:rz ee≤16:=xA6 HE.out hi hj
    have hso:rz o≤30:=xx3 HO.out hmj hj hse
    obtain ⟨c1,HC1⟩:∃ z,Hid (sgQ (ee - st)=z):=⟨_,lh_ rfl⟩
    rcases gk with _|kk
    ·obtain rfl:j=i+k+1:=by omega
     have hc1:c1<0:=by rw [← HC1.out,← HE.out,← HST.out,qf5 xy4];decide
     have HEQ:Hid (z=o):=lh_ (xt4 HA.out HE.out HO.out HO2.out HOA.out HZ.out)
     obtain rfl:=HEQ.out
     clear HEQ
     refine wp_seq ?_
     have hcc1:¬ 0≤c1:=by omega
     have lx29:=c5_ I
     have lx34:=c8_ I
     refine ks4_ fun K O T Y=>?_
     refine tk2_ ?_
     refine ck Tryz.call130 (fun w' hw=>qi7 ee st c1 _ _ _ _ _ (HC1.out) om om (I.out.r 11 rfl hw) (I.out.r 12 rfl hw) (I.out.r 6 rfl hw) (I.out.r 7 rfl hw)) ?_
     refine tk ?_
     refine nlS Y I fun vw4 J=>?_
     clear Y T I lx29 lx34
     go_wp2
     refine kO O ?_;clear O K
     have I:=J;clear J
     clear hcc1
     refine wp_cond_false (by rfl) ?_
     refine wp_exit ?_
     show Code.wp _ _ _ _ _
     have lx25:=c4_ I
     refine ks1_ fun K O T Y=>?_
     refine tk ?_
     refine nlS Y I fun vw5 J=>?_
     clear Y T I lx25
     have lx24:=c3_ J;have fx24:=f3_ J
     have r0:=Gr.refl vw5
     go_wp2
     refine kO O ?_;clear O K
     clear r0 lx24 fx24
     refine fH (((((((((((((J.out).put2 3 0 rfl).put 3 2 _ rfl).er 12).er 11).er 8).er 7).er 6).er 5).er 4).er 2).er 1).er 0) fun Wx11 I=>?_
     clear J
     refine wp_ret ?_
     try simp only [Exit.then,Exit.inBlock]
     have lx24:=c0_ I
     have r0:=Gr.refl Wx11
     exact bodyPost_ret (v:=.agg #[.bool (decide (z.num<0)),(.slice aoB1 nnB1 ccB1),(.slice aoB2 nnB2 ccB2)]) (by simp [results,Tryz.results97,go_sem,lx24 _ r0]) rfl ⟨⟨(.slice aoB1 nnB1 ccB1),(.slice aoB2 nnB2 ccB2),rfl,(I.out.rn 1 rfl),(I.out.rn 2 rfl)⟩,I.out.1⟩
    ·have hc1:¬ c1<0:=by rw [← HC1.out,← HE.out,← HST.out];have h9:=xm9 (xE2 (i:=i) (j:=j) (k:=k) om);omega
     obtain ⟨n,HN⟩:∃ z,Hid (o+ee=z):=⟨_,lh_ rfl⟩
     obtain ⟨ee',HE'⟩:∃ z,Hid (ee*(1 / 2:Rat)=z):=⟨_,lh_ rfl⟩
     obtain ⟨c2,HC2⟩:∃ z,Hid (sgQ (n*n - a)=z):=⟨_,lh_ rfl⟩
     by_cases hle:n*n≤a
     ·have hc2:c2≤0:=by rw [← HC2.out];exact qW2 hle
      have HNA:=lh_ hle
      clear hle
      refine wp_seq ?_
      have hcc1:0≤c1:=by omega
      have lx29:=c5_ I
      have lx34:=c8_ I
      refine ks4_ fun K O T Y=>?_
      refine tk2_ ?_
      refine ck Tryz.call130 (fun w' hw=>qi7 ee st c1 _ _ _ _ _ (HC1.out) om om (I.out.r 11 rfl hw) (I.out.r 12 rfl hw) (I.out.r 6 rfl hw) (I.out.r 7 rfl hw)) ?_
      refine tk ?_
      refine nlS Y I fun vw4 J=>?_
      clear Y T I lx29 lx34
      go_wp2
      refine kO O ?_;clear O K
      have I:=J;clear J
      clear hcc1
      refine wp_cond_true (by rfl) ?_
      refine wp_skip ?_
      show Code.wp _ _ _ _ _
      refine wp_block ?_
      have HZ4:Hid (o+(ee)=n):=lh_ (HN.out)
      have su4:rz n≤60:=by have e:=HZ4.out;first|omega|(rw [← e];have:=qA_ o ee;omega)
      have lx25:=c4_ I
      have lx29:=c5_ I
      refine kS fun K O=>?_
      have HG0:Hid (Gr vw4 vw4):=lh_ (Gr.refl _)
      refine qq9 fun T Y=>?_
      refine tk2_ ?_
      refine qa0 rfl (by rfl) Tryz.call100 (by rfl) (fun w' hw=>(qq1 o ee n _ _ _ _ _ HZ4.out om om (I.out.r 9 rfl (HG0.out.trans hw)) (I.out.r 10 rfl (HG0.out.trans hw)) (I.out.r 11 rfl (HG0.out.trans hw)) (I.out.r 12 rfl (HG0.out.trans hw))).mono ?_)
      rintro e vv37 ⟨⟨rv7,rv8,rfl,bx37,bx38⟩,hg0⟩
      obtain ⟨ao7,nn7,cc7,rfl⟩:=Rn.sl bx37
      obtain ⟨ao8,nn8,cc8,rfl⟩:=Rn.sl bx38
      refine ⟨_,rfl,hg0,?_⟩
      replace hg0:=Gr.trans hw hg0;clear hw
      replace HG0:=lh_ (HG0.out.trans hg0)
      have HGS:=lh_ hg0;clear hg0
      clear HGS
      have RN37:=lh_ bx37;clear bx37
      have RN38:=lh_ bx38;clear bx38
      clear lx25;have lx25:=fun w' (h:Gr _ w')=>c4_ I w' (HG0.out.trans h)
      clear lx29;have lx29:=fun w' (h:Gr _ w')=>c5_ I w' (HG0.out.trans h)
      simp only [Act.put,lA,lB,lC]
      refine qa1 (Y.out _ _ ?_)
      intro vw5 hg
      simp only [puts,Act.put,lA,lB,lC,lD,lE,↓reduceIte,Nat.reduceEqDiff]
      have J:=lh_ (((I.out.gr (HG0.out.trans hg)).ar (RN37.out.gr hg)).ar (RN38.out.gr hg))
      simp only [zq1_,zq2_,zq3_,zq4_,lF,lG] at J
      clear Y T I hg HG0 RN37 RN38 lx25 lx29
      go_wp2
      refine kF_ O ((J.out).aL (vw5.heap.size)) fun Wx7 I=>?_;clear O K
      clear J
      generalize vw5.heap.size=gx39 at *
      refine wp_seq ?_
      obtain ⟨u5,HZ5⟩:∃ z,Hid (n*(n)=z):=⟨_,lh_ rfl⟩
      have su5:rz u5≤120:=by rw [← HZ5.out];have:=qk0 n n;omega
      have lx23:=c2_ I
      have lx39:=I.out.c 15 rfl
      refine kS fun K O=>?_
      have HG0:Hid (Gr Wx7 Wx7):=lh_ (Gr.refl _)
      refine xc1 fun T Y=>?_
      refine tk2_ ?_
      refine qa0 rfl (by rfl) Tryz.call99 (by rfl) (fun w' hw=>(qh6 n u5 _ _ _ (lh_ HZ5.out) om (I.out.r 13 rfl (HG0.out.trans hw)) (I.out.r 14 rfl (HG0.out.trans hw))).mono ?_)
      rintro e vv40 ⟨⟨rv9,rv10,rfl,bx40,bx41⟩,hg0⟩
      obtain ⟨ao9,nn9,cc9,rfl⟩:=Rn.sl bx40
      obtain ⟨ao10,nn10,cc10,rfl⟩:=Rn.sl bx41
      refine ⟨_,rfl,hg0,?_⟩
      replace hg0:=Gr.trans hw hg0;clear hw
      replace HG0:=lh_ (HG0.out.trans hg0)
      have HGS:=lh_ hg0;clear hg0
      clear HGS
      have RN40:=lh_ bx40;clear bx40
      have RN41:=lh_ bx41;clear bx41
      clear lx23;have lx23:=fun w' (h:Gr _ w')=>c2_ I w' (HG0.out.trans h)
      clear lx39;have lx39:=fun w' (h:Gr _ w')=>I.out.c 15 rfl w' (HG0.out.trans h)
      simp only [Act.put,lA,lB,lC]
      refine ck Tryz.call130 (fun w' hw=>qi7 u5 a c2 _ _ _ _ _ (by simp only [← HZ5.out,← HZ2.out];exact HC2.out) om om (RN40.out.gr hw) (RN41.out.gr hw) (I.out.r 0 rfl (HG0.out.trans hw)) (I.out.r 1 rfl (HG0.out.trans hw))) ?_
      refine qa1 (Y.out _ _ ?_)
      intro G vw6 hg hf
      simp only [puts,Act.put,lA,lB,lC,lD,lE,↓reduceIte,Nat.reduceEqDiff]
      have J:=lh_ (((I.out.gr (HG0.out.trans hg)).ar (RN40.out.gr hg)).ar (RN41.out.gr hg))
      simp only [zq1_,zq2_,zq3_,zq4_,lF,lG] at J
      clear Y T I hg hf HG0 RN40 RN41 lx23 lx39
      have hcc2:c2≤0:=by omega
      go_wp2
      refine kO O ?_;clear O K
      have I:=J;clear J
      clear hcc2
      refine wp_cond_true (by rfl) ?_
      have lx39:=I.out.c 15 rfl
      refine kL fun K O=>?_
      refine sq1_ fun T Y=>?_
      refine tk ?_
      refine nlS Y I fun vw7 J=>?_
      clear Y T I lx39
      have lx25:=c4_ J;have fx25:=f4_ J
      have r0:=Gr.refl vw7
      go_wp2
      refine kO O ?_;clear O K
      clear r0 lx25 fx25
      refine fH (((J.out).put2 4 0 rfl).put 4 2 _ rfl) fun Wx9 I=>?_
      clear J
      have HZ6:Hid (((1:Int):Rat) / ((2:Int):Rat)=(1 / 2:Rat)):=lh_ (by decide +kernel)
      have su6:rz ((1 / 2:Rat))≤10:=by have e:=HZ6.out;first|omega|(rw [← e];exact qt8 (1) (2) om om om om)
      have HZ7:Hid (ee*((1 / 2:Rat))=ee'):=lh_ (HE'.out)
      have su7:rz ee'≤40:=by have e:=HZ7.out;first|omega|(rw [← e];have:=qk0 ee ((1 / 2:Rat));omega)
      have lx29:=c5_ I
      refine kL fun K O=>?_
      have HG0:Hid (Gr Wx9 Wx9):=lh_ (Gr.refl _)
      refine xk1 fun T Y=>?_
      refine tk ?_
      refine qa0 rfl (by rfl) Tryz.call102 (by rfl) (fun w' hw=>(qy6 (1) (2) ((1 / 2:Rat)) _ HZ6.out om om om om).mono ?_)
      rintro e vv42 ⟨⟨rv11,rv12,rfl,bx42,bx43⟩,hg0⟩
      obtain ⟨ao11,nn11,cc11,rfl⟩:=Rn.sl bx42
      obtain ⟨ao12,nn12,cc12,rfl⟩:=Rn.sl bx43
      refine ⟨_,rfl,hg0,?_⟩
      replace hg0:=Gr.trans hw hg0;clear hw
      replace HG0:=lh_ (HG0.out.trans hg0)
      have HGS:=lh_ hg0;clear hg0
      clear HGS
      have RN42:=lh_ bx42;clear bx42
      have RN43:=lh_ bx43;clear bx43
      clear lx29;have lx29:=fun w' (h:Gr _ w')=>c5_ I w' (HG0.out.trans h)
      simp only [Act.put,lA,lB,lC]
      refine qa0 rfl (by rfl) Tryz.call132 (by rfl) (fun w' hw=>(qo2 ee ((1 / 2:Rat)) ee' _ _ _ _ _ HZ7.out om om (I.out.r 11 rfl (HG0.out.trans hw)) (I.out.r 12 rfl (HG0.out.trans hw)) (RN42.out.gr hw) (RN43.out.gr hw)).mono ?_)
      rintro e vv44 ⟨⟨rv13,rv14,rfl,bx44,bx45⟩,hg0⟩
      obtain ⟨ao13,nn13,cc13,rfl⟩:=Rn.sl bx44
      obtain ⟨ao14,nn14,cc14,rfl⟩:=Rn.sl bx45
      refine ⟨_,rfl,hg0,?_⟩
      replace hg0:=Gr.trans hw hg0;clear hw
      replace HG0:=lh_ (HG0.out.trans hg0)
      have HGS:=lh_ hg0;clear hg0
      replace RN42:=lh_ (RN42.out.gr HGS.out)
      replace RN43:=lh_ (RN43.out.gr HGS.out)
      clear HGS
      have RN44:=lh_ bx44;clear bx44
      have RN45:=lh_ bx45;clear bx45
      clear lx29;have lx29:=fun w' (h:Gr _ w')=>c5_ I w' (HG0.out.trans h)
      simp only [Act.put,lA,lB,lC]
      refine qa1 (Y.out _ _ ?_)
      intro G vw8 hg hf
      simp only [puts,Act.put,lA,lB,lC,lD,lE,↓reduceIte,Nat.reduceEqDiff]
      have J:=lh_ (((((I.out.gr (HG0.out.trans hg)).ar (RN42.out.gr hg)).ar (RN43.out.gr hg)).ar (RN44.out.gr hg)).ar (RN45.out.gr hg))
      simp only [zq1_,zq2_,zq3_,zq4_,lF,lG] at J
      clear Y T I hg hf HG0 RN42 RN43 RN44 RN45 lx29
      have lx29:=c5_ J;have fx29:=f5_ J
      have r0:=Gr.refl vw8
      go_wp2
      refine O.out _ _ ?_;clear O K
      try simp only [Exit.then,Exit.inBlock]
      clear r0 lx29 fx29
      have I:=lh_ (((J.out).put2 (u1:=.bool (decide (ee'.num<0))) (u2:=(.slice ao13 nn13 cc13)) 5 0 rfl).put 5 2 ((.slice ao14 nn14 cc14)) rfl);clear J
      refine hm0_ _ _ ?_
      go_roundg kk
      case measure=>omega
      case rel=>exact ⟨j+1,2*m+1,n,ee',_,_,_,_,by omega,xD2 hmj,lh_ (lw_e HE.out HE'.out),lh_ (xC8 HO.out HN.out HE'.out),HNA,lh_ (xF7 HOA.out HN.out HE'.out),lh_ ((((((((((I.out).er 19).er 18).er 17).er 16).er 15).er 12).er 11).er 10).er 9)⟩
     ·have hc2:¬ c2≤0:=by rw [← HC2.out,qh9 (by have:=Rat.not_le.1 hle;grind)];decide
      have HNA:=lh_ hle
      clear hle
      refine wp_seq ?_
      have hcc1:0≤c1:=by omega
      have lx29:=c5_ I
      have lx34:=c8_ I
      refine ks4_ fun K O T Y=>?_
      refine tk2_ ?_
      refine ck Tryz.call130 (fun w' hw=>qi7 ee st c1 _ _ _ _ _ (HC1.out) om om (I.out.r 11 rfl hw) (I.out.r 12 rfl hw) (I.out.r 6 rfl hw) (I.out.r 7 rfl hw)) ?_
      refine tk ?_
      refine nlS Y I fun vw4 J=>?_
      clear Y T I lx29 lx34
      go_wp2
      refine kO O ?_;clear O K
      have I:=J;clear J
      clear hcc1
      refine wp_cond_true (by rfl) ?_
      refine wp_skip ?_
      show Code.wp _ _ _ _ _
      refine wp_block ?_
      have HZ4:Hid (o+(ee)=n):=lh_ (HN.out)
      have su4:rz n≤60:=by have e:=HZ4.out;first|omega|(rw [← e];have:=qA_ o ee;omega)
      have lx25:=c4_ I
      have lx29:=c5_ I
      refine kS fun K O=>?_
      have HG0:Hid (Gr vw4 vw4):=lh_ (Gr.refl _)
      refine qq9 fun T Y=>?_
      refine tk2_ ?_
      refine qa0 rfl (by rfl) Tryz.call100 (by rfl) (fun w' hw=>(qq1 o ee n _ _ _ _ _ HZ4.out om om (I.out.r 9 rfl (HG0.out.trans hw)) (I.out.r 10 rfl (HG0.out.trans hw)) (I.out.r 11 rfl (HG0.out.trans hw)) (I.out.r 12 rfl (HG0.out.trans hw))).mono ?_)
      rintro e vv37 ⟨⟨rv7,rv8,rfl,bx37,bx38⟩,hg0⟩
      obtain ⟨ao7,nn7,cc7,rfl⟩:=Rn.sl bx37
      obtain ⟨ao8,nn8,cc8,rfl⟩:=Rn.sl bx38
      refine ⟨_,rfl,hg0,?_⟩
      replace hg0:=Gr.trans hw hg0;clear hw
      replace HG0:=lh_ (HG0.out.trans hg0)
      have HGS:=lh_ hg0;clear hg0
      clear HGS
      have RN37:=lh_ bx37;clear bx37
      have RN38:=lh_ bx38;clear bx38
      clear lx25;have lx25:=fun w' (h:Gr _ w')=>c4_ I w' (HG0.out.trans h)
      clear lx29;have lx29:=fun w' (h:Gr _ w')=>c5_ I w' (HG0.out.trans h)
      simp only [Act.put,lA,lB,lC]
      refine qa1 (Y.out _ _ ?_)
      intro vw5 hg
      simp only [puts,Act.put,lA,lB,lC,lD,lE,↓reduceIte,Nat.reduceEqDiff]
      have J:=lh_ (((I.out.gr (HG0.out.trans hg)).ar (RN37.out.gr hg)).ar (RN38.out.gr hg))
      simp only [zq1_,zq2_,zq3_,zq4_,lF,lG] at J
      clear Y T I hg HG0 RN37 RN38 lx25 lx29
      go_wp2
      refine kF_ O ((J.out).aL (vw5.heap.size)) fun Wx7 I=>?_;clear O K
      clear J
      generalize vw5.heap.size=gx39 at *
      refine wp_seq ?_
      obtain ⟨u5,HZ5⟩:∃ z,Hid (n*(n)=z):=⟨_,lh_ rfl⟩
      have su5:rz u5≤120:=by rw [← HZ5.out];have:=qk0 n n;omega
      have lx23:=c2_ I
      have lx39:=I.out.c 15 rfl
      refine kS fun K O=>?_
      have HG0:Hid (Gr Wx7 Wx7):=lh_ (Gr.refl _)
      refine xc1 fun T Y=>?_
      refine tk2_ ?_
      refine qa0 rfl (by rfl) Tryz.call99 (by rfl) (fun w' hw=>(qh6 n u5 _ _ _ (lh_ HZ5.out) om (I.out.r 13 rfl (HG0.out.trans hw)) (I.out.r 14 rfl (HG0.out.trans hw))).mono ?_)
      rintro e vv40 ⟨⟨rv9,rv10,rfl,bx40,bx41⟩,hg0⟩
      obtain ⟨ao9,nn9,cc9,rfl⟩:=Rn.sl bx40
      obtain ⟨ao10,nn10,cc10,rfl⟩:=Rn.sl bx41
      refine ⟨_,rfl,hg0,?_⟩
      replace hg0:=Gr.trans hw hg0;clear hw
      replace HG0:=lh_ (HG0.out.trans hg0)
      have HGS:=lh_ hg0;clear hg0
      clear HGS
      have RN40:=lh_ bx40;clear bx40
      have RN41:=lh_ bx41;clear bx41
      clear lx23;have lx23:=fun w' (h:Gr _ w')=>c2_ I w' (HG0.out.trans h)
      clear lx39;have lx39:=fun w' (h:Gr _ w')=>I.out.c 15 rfl w' (HG0.out.trans h)
      simp only [Act.put,lA,lB,lC]
      refine ck Tryz.call130 (fun w' hw=>qi7 u5 a c2 _ _ _ _ _ (by simp only [← HZ5.out,← HZ2.out];exact HC2.out) om om (RN40.out.gr hw) (RN41.out.gr hw) (I.out.r 0 rfl (HG0.out.trans hw)) (I.out.r 1 rfl (HG0.out.trans hw))) ?_
      refine qa1 (Y.out _ _ ?_)
      intro G vw6 hg hf
      simp only [puts,Act.put,lA,lB,lC,lD,lE,↓reduceIte,Nat.reduceEqDiff]
      have J:=lh_ (((I.out.gr (HG0.out.trans hg)).ar (RN40.out.gr hg)).ar (RN41.out.gr hg))
      simp only [zq1_,zq2_,zq3_,zq4_,lF,lG] at J
      clear Y T I hg hf HG0 RN40 RN41 lx23 lx39
      have hcc2:¬ c2≤0:=by omega
      go_wp2
      refine kO O ?_;clear O K
      have I:=J;clear J
      clear hcc2
      refine wp_cond_false (by rfl) ?_
      refine wp_skip ?_
      show Code.wp _ _ _ _ _
      have HZ6:Hid (((1:Int):Rat) / ((2:Int):Rat)=(1 / 2:Rat)):=lh_ (by decide +kernel)
      have su6:rz ((1 / 2:Rat))≤10:=by have e:=HZ6.out;first|omega|(rw [← e];exact qt8 (1) (2) om om om om)
      have HZ7:Hid (ee*((1 / 2:Rat))=ee'):=lh_ (HE'.out)
      have su7:rz ee'≤40:=by have e:=HZ7.out;first|omega|(rw [← e];have:=qk0 ee ((1 / 2:Rat));omega)
      have lx29:=c5_ I
      refine kL fun K O=>?_
      have HG0:Hid (Gr vw6 vw6):=lh_ (Gr.refl _)
      refine xk1 fun T Y=>?_
      refine tk ?_
      refine qa0 rfl (by rfl) Tryz.call102 (by rfl) (fun w' hw=>(qy6 (1) (2) ((1 / 2:Rat)) _ HZ6.out om om om om).mono ?_)
      rintro e vv42 ⟨⟨rv11,rv12,rfl,bx42,bx43⟩,hg0⟩
      obtain ⟨ao11,nn11,cc11,rfl⟩:=Rn.sl bx42
      obtain ⟨ao12,nn12,cc12,rfl⟩:=Rn.sl bx43
      refine ⟨_,rfl,hg0,?_⟩
      replace hg0:=Gr.trans hw hg0;clear hw
      replace HG0:=lh_ (HG0.out.trans hg0)
      have HGS:=lh_ hg0;clear hg0
      clear HGS
      have RN42:=lh_ bx42;clear bx42
      have RN43:=lh_ bx43;clear bx43
      clear lx29;have lx29:=fun w' (h:Gr _ w')=>c5_ I w' (HG0.out.trans h)
      simp only [Act.put,lA,lB,lC]
      refine qa0 rfl (by rfl) Tryz.call132 (by rfl) (fun w' hw=>(qo2 ee ((1 / 2:Rat)) ee' _ _ _ _ _ HZ7.out om om (I.out.r 11 rfl (HG0.out.trans hw)) (I.out.r 12 rfl (HG0.out.trans hw)) (RN42.out.gr hw) (RN43.out.gr hw)).mono ?_)
      rintro e vv44 ⟨⟨rv13,rv14,rfl,bx44,bx45⟩,hg0⟩
      obtain ⟨ao13,nn13,cc13,rfl⟩:=Rn.sl bx44
      obtain ⟨ao14,nn14,cc14,rfl⟩:=Rn.sl bx45
      refine ⟨_,rfl,hg0,?_⟩
      replace hg0:=Gr.trans hw hg0;clear hw
      replace HG0:=lh_ (HG0.out.trans hg0)
      have HGS:=lh_ hg0;clear hg0
      replace RN42:=lh_ (RN42.out.gr HGS.out)
      replace RN43:=lh_ (RN43.out.gr HGS.out)
      clear HGS
      have RN44:=lh_ bx44;clear bx44
      have RN45:=lh_ bx45;clear bx45
      clear lx29;have lx29:=fun w' (h:Gr _ w')=>c5_ I w' (HG0.out.trans h)
      simp only [Act.put,lA,lB,lC]
      refine qa1 (Y.out _ _ ?_)
      intro G vw7 hg hf
      simp only [puts,Act.put,lA,lB,lC,lD,lE,↓reduceIte,Nat.reduceEqDiff]
      have J:=lh_ (((((I.out.gr (HG0.out.trans hg)).ar (RN42.out.gr hg)).ar (RN43.out.gr hg)).ar (RN44.out.gr hg)).ar (RN45.out.gr hg))
      simp only [zq1_,zq2_,zq3_,zq4_,lF,lG] at J
      clear Y T I hg hf HG0 RN42 RN43 RN44 RN45 lx29
      have lx29:=c5_ J;have fx29:=f5_ J
      have r0:=Gr.refl vw7
      go_wp2
      refine O.out _ _ ?_;clear O K
      try simp only [Exit.then,Exit.inBlock]
      clear r0 lx29 fx29
      have I:=lh_ (((J.out).put2 (u1:=.bool (decide (ee'.num<0))) (u2:=(.slice ao13 nn13 cc13)) 5 0 rfl).put 5 2 ((.slice ao14 nn14 cc14)) rfl);clear J
      refine hm0_ _ _ ?_
      go_roundg kk
      case measure=>omega
      case rel=>exact ⟨j+1,2*m,o,ee',_,_,_,_,by omega,xF5 hmj,lh_ (lw_e HE.out HE'.out),lh_ (xF0 HO.out HE'.out),HO2,lh_ (xG0 HNA.out HN.out HE'.out),lh_ ((((((((((I.out).er 19).er 18).er 17).er 16).er 15).er 14).er 13).er 12).er 11)⟩
end Go.Proofs.YtaflakcemiilaaaGreatDoor
