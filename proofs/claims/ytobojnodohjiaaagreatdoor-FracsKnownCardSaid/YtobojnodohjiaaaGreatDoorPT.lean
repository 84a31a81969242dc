/- A pack of texts: RefT2, RefT3, RefU, RefV. No condition but those stated. -/
import Derived.Test.YtobojnodohjiaaaGreatDoorPI
import Derived.Test.YtobojnodohjiaaaGreatDoorHp
set_option maxRecDepth 100000
set_option maxHeartbeats 16000000
set_option linter.unusedVariables false
set_option linter.unusedSimpArgs false
namespace Go.Proofs.YtobojnodohjiaaaGreatDoor
section
open Go.RowKit
attribute [local go_sem ↓] Go.wp_at_zero Go.wp_at_succ
theorem qK1 (a z:Int) (va:Value) (w:World) (hz:-a=z) (bx21:Rn w va a.natAbs) :
  Calls Tryz.prog 216 #[.agg #[.bool (a<0),va]] w fun e w'=>(∃ r1:Value,e=.returned (.agg #[.bool (z<0),r1])∧Rn w' r1 z.natAbs)∧Gr w w':=by
 replace hz:=lh_ hz
 obtain ⟨ao_va,n_va,c_va,rfl⟩:=Rn.sl bx21
 go_enter Tryz.func216,Tryz.ntmps216
 have I:=lh_ (hp0 w)
 replace I:=lh_ (I.out.ar bx21)
 simp only [lF,lG] at I
 clear bx21
 refine kSl fun K O=>?_;go_wp2
 refine kF_ O (al2_ I) fun Wx0 J=>?_;clear O K
 clear I;have I:=J;clear J
 generalize w.heap.size+1=gx23 at *
 have HZ1:Hid ((if !decide (a<0) then -((Int.natAbs a:Nat):Int) else ((Int.natAbs a:Nat):Int))=z):=lh_ (by rw [← hz.out];by_cases h:a<0 <;> simp [h] <;> omega)
 have lx22:=kc1_ I
 refine kS fun K O=>?_
 have HG0:Hid (Gr Wx0 Wx0):=lh_ (Gr.refl _)
 refine xq_ fun T Y=>?_
 iterate 5 refine tk ?_
 refine ce1 Tryz.call196 HG0 (fun w' hw=>qa8 (!decide (a<0)) a.natAbs z _ _ HZ1.out (I.out.r 0 rfl (HG0.out.trans hw))) ?_;clear HG0;intro vv25 HG0 _ ao1 nn1 cc1 RN25
 clear lx22;have lx22:=fun w' (h:Gr _ w')=>kc1_ I w' (HG0.out.trans h)
 refine wpPlan_nil (Y.out _ _ ?_)
 intro vw1 hg
 simp only [puts,Act.put,lA,lB,lC,lD,lE,↓reduceIte,Nat.reduceEqDiff]
 have J:=lh_ ((I.out.gr (HG0.out.trans hg)).ar (RN25.out.gr hg))
 simp only [zq1_,zq2_,zq3_,zq4_,lF,lG] at J
 clear Y T I hg HG0 RN25 lx22
 have lx23:=kc2_ J;have fx23:=kf2_ J
 have r0:=Gr.refl vw1
 go_wp2
 refine kO O ?_;clear O K
 clear r0 lx23 fx23
 refine fH ((((J.out).put2 2 0 rfl).er 1).er 0) fun Wx1 I=>?_
 clear J
 refine wp_ret ?_
 try simp only [Exit.then,Exit.inBlock]
 have lx23:=kc0_ I
 have r0:=Gr.refl Wx1
 exact bR ⟨⟨(.slice ao1 nn1 cc1),rfl,(I.out.rn 1 rfl)⟩,I.out.1⟩ (by simp [results,Tryz.results216,go_sem,lx23 _ r0])
theorem xx8 (a b:Int):(if (decide (a<0) != decide (b<0)) then -((a.natAbs*b.natAbs:Nat):Int) else ((a.natAbs*b.natAbs:Nat):Int))=a*b:=by
 have h:((a.natAbs*b.natAbs:Nat):Int)=(a.natAbs:Int)*(b.natAbs:Int):=Int.natCast_mul _ _
 rw [h]
 by_cases h1:a<0 <;> by_cases h2:b<0
 ·rw [Int.ofNat_natAbs_of_nonpos om,Int.ofNat_natAbs_of_nonpos om];simp [h1,h2,Int.neg_mul,Int.mul_neg]
 ·rw [Int.ofNat_natAbs_of_nonpos om,Int.natAbs_of_nonneg om];simp [h1,h2,Int.neg_mul,Int.mul_neg]
 ·rw [Int.natAbs_of_nonneg om,Int.ofNat_natAbs_of_nonpos om];simp [h1,h2,Int.neg_mul,Int.mul_neg]
 rw [Int.natAbs_of_nonneg om,Int.natAbs_of_nonneg om];simp [h1,h2,Int.neg_mul,Int.mul_neg]
def sgZ (a:Int):Int:=if a=0 then 0 else if a<0 then -1 else 1
theorem qC0 (a s:Int) (va:Value) (w:World) (hs:sgZ a=s) (h:Rn w va a.natAbs) :
  CB 194 #[.agg #[.bool (decide (a<0)),va]] w (.int .i64 s):=by
 obtain ⟨ao,c,rfl,hc,hc2⟩:=Dr.slice h
 obtain ⟨k,hk⟩:∃ k,tw a.natAbs=k:=⟨_,rfl⟩
 rw [hk] at hc ⊢
 have HS:=lh_ hs
 clear h hs
 by_cases h0:a=0
 ·subst h0
  have hk0:k=0:=by rw [← hk];exact qf3
  subst hk0
  obtain rfl:s=0:=by rw [← HS.out];rfl
  clear hk
  go_enter Tryz.func194,Tryz.ntmps194
  go_wp2
  go_ret
  exact ⟨rfl,(Below.refl _ _).alloc (Nat.le_refl _) _⟩
 have hk0:0<k:=by rw [← hk];exact qo1 om
 have hkz:¬ (k=0):=by omega
 clear hk
 by_cases h1:a<0
 ·obtain rfl:s = -1:=by rw [← HS.out];unfold sgZ;rw [if_neg h0,if_pos h1]
  go_enter Tryz.func194,Tryz.ntmps194
  go_wp2
  go_ret
  exact ⟨rfl,(Below.refl _ _).alloc (Nat.le_refl _) _⟩
 obtain rfl:s=1:=by rw [← HS.out];unfold sgZ;rw [if_neg h0,if_neg h1]
 go_enter Tryz.func194,Tryz.ntmps194
 go_wp2
 go_ret
 exact ⟨rfl,(Below.refl _ _).alloc (Nat.le_refl _) _⟩
theorem qy8 (a b z:Int) (va vb:Value) (w:World) (hz:a*b=z) (hs_a:tw (Int.natAbs a)≤400000000) (hs_b:tw (Int.natAbs b)≤400000000) (bx21:Rn w va a.natAbs) (bx22:Rn w vb b.natAbs) :
  Calls Tryz.prog 214 #[.agg #[.bool (a<0),va],.agg #[.bool (b<0),vb]] w fun e w'=>(∃ r1:Value,e=.returned (.agg #[.bool (z<0),r1])∧Rn w' r1 z.natAbs)∧Gr w w':=by
 replace hz:=lh_ hz
 obtain ⟨ao_va,n_va,c_va,rfl⟩:=Rn.sl bx21
 obtain ⟨ao_vb,n_vb,c_vb,rfl⟩:=Rn.sl bx22
 go_enter Tryz.func214,Tryz.ntmps214
 have I:=lh_ (hp0 w)
 replace I:=lh_ ((I.out.ar bx21).ar bx22)
 simp only [lF,lG] at I
 clear bx21 bx22
 refine kSl fun K O=>?_;go_wp2
 refine kF_ O (al3_ I) fun Wx0 J=>?_;clear O K
 clear I;have I:=J;clear J
 generalize w.heap.size+1+1=gx25 at *
 generalize w.heap.size+1=gx24 at *
 obtain ⟨u1,HZ1⟩:=ex_ (a.natAbs*b.natAbs)
 have su1:tw u1≤800000000:=by rw [← HZ1.out];have:=qj1 a.natAbs b.natAbs;omega
 have HZ2:Hid ((if decide (a<0) != decide (b<0) then -((u1:Nat):Int) else ((u1:Nat):Int))=z):=lh_ (by rw [← hz.out,← HZ1.out];exact xx8 a b)
 have lx23:=kc2_ I
 have lx24:=kc3_ I
 refine kS fun K O=>?_
 have HG0:Hid (Gr Wx0 Wx0):=lh_ (Gr.refl _)
 refine xD1 fun T Y=>?_
 iterate 9 refine tk ?_
 refine ce1 Tryz.call178 HG0 (fun w' hw=>xt_ _ _ a.natAbs b.natAbs u1 _ HZ1.out (I.out.r 0 rfl (HG0.out.trans hw)) (I.out.r 1 rfl (HG0.out.trans hw)) om om) ?_;clear HG0;intro vv27 HG0 _ ao1 nn1 cc1 RN27
 clear lx23;have lx23:=fun w' (h:Gr _ w')=>kc2_ I w' (HG0.out.trans h)
 clear lx24;have lx24:=fun w' (h:Gr _ w')=>kc3_ I w' (HG0.out.trans h)
 refine ce1 Tryz.call196 HG0 (fun w' hw=>qa8 (decide (a<0) != decide (b<0)) u1 z _ _ HZ2.out (RN27.out.gr hw)) ?_;clear HG0;intro vv28 HG0 HGS ao2 nn2 cc2 RN28
 replace RN27:=lh_ (RN27.out.gr HGS.out)
 clear HGS
 clear lx23;have lx23:=fun w' (h:Gr _ w')=>kc2_ I w' (HG0.out.trans h)
 clear lx24;have lx24:=fun w' (h:Gr _ w')=>kc3_ I w' (HG0.out.trans h)
 refine wpPlan_nil (Y.out _ _ ?_)
 intro G vw1 hg hf
 simp only [puts,Act.put,lA,lB,lC,lD,lE,↓reduceIte,Nat.reduceEqDiff]
 have J:=lh_ (((I.out.gr (HG0.out.trans hg)).ar (RN27.out.gr hg)).ar (RN28.out.gr hg))
 simp only [zq1_,zq2_,zq3_,zq4_,lF,lG] at J
 clear Y T I hg hf HG0 RN27 RN28 lx23 lx24
 have lx25:=kc4_ J;have fx25:=kf4_ J
 have r0:=Gr.refl vw1
 go_wp2
 refine kO O ?_;clear O K
 clear r0 lx25 fx25
 refine fH (((((((J.out).put2 4 0 rfl).er 5).er 3).er 2).er 1).er 0) fun Wx1 I=>?_
 clear J
 refine wp_ret ?_
 try simp only [Exit.then,Exit.inBlock]
 have lx25:=kc0_ I
 have r0:=Gr.refl Wx1
 exact bR ⟨⟨(.slice ao2 nn2 cc2),rfl,(I.out.rn 1 rfl)⟩,I.out.1⟩ (by simp [results,Tryz.results214,go_sem,lx25 _ r0])
end
section
open Go.RowKit
attribute [local go_sem ↓] Go.wp_at_zero Go.wp_at_succ
theorem xm6 {x y:Nat} (h:0≤cmpI (x:Int) (y:Int)):y≤x:=by
 unfold cmpI at h
 split at h
 ·omega
 omega
theorem xb6 {x y:Nat} (h:¬ 0≤cmpI (x:Int) (y:Int)):x≤y:=by
 unfold cmpI at h
 split at h
 ·omega
 split at h <;> omega
theorem xx6 {a b:Int} (h:(decide (a<0) == decide (b<0))=true):(if decide (a<0) then -((a.natAbs+b.natAbs:Nat):Int) else ((a.natAbs+b.natAbs:Nat):Int))=a+b:=by
 have e:=beq_iff_eq.1 h
 have e2:=decide_eq_decide.1 e
 by_cases h1:a<0
 ·have:=e2.1 h1;simp only [h1,decide_true,if_true];omega
 have:¬ b<0:=fun h=>h1 (e2.2 h)
 simp only [h1,decide_false,Bool.false_eq_true,if_false];omega
theorem xl1 {a b:Int} (h:(decide (a<0) == decide (b<0))=false) (hl:b.natAbs≤a.natAbs):(if decide (a<0) then -((a.natAbs - b.natAbs:Nat):Int) else ((a.natAbs - b.natAbs:Nat):Int))=a+b:=by
 by_cases h1:a<0
 ·have h2:¬ b<0:=fun h2=>by simp [h1,h2] at h
  simp only [h1,decide_true,if_true];omega
 have h2:b<0:=by
  rcases Int.lt_or_le b 0 with h2|h2
  ·exact h2
  simp [h1,show ¬ b<0 by omega] at h
 simp only [h1,decide_false,Bool.false_eq_true,if_false];omega
theorem xx7 {a b:Int} (h:(decide (a<0) == decide (b<0))=false) (hl:a.natAbs≤b.natAbs):(if decide (b<0) then -((b.natAbs - a.natAbs:Nat):Int) else ((b.natAbs - a.natAbs:Nat):Int))=a+b:=by
 have h':(decide (b<0) == decide (a<0))=false:=by rw [← h];exact Bool.beq_comm
 rw [xl1 h' hl,Int.add_comm]
theorem xa6 (a b z:Int) (va vb:Value) (w:World) (hz:a+b=z) (h:(decide (a<0) == decide (b<0))=true) (hs_a:tw (Int.natAbs a)≤400000000) (hs_b:tw (Int.natAbs b)≤400000000) (bx21:Rn w va a.natAbs) (bx22:Rn w vb b.natAbs) :
  Calls Tryz.prog 210 #[.agg #[.bool (a<0),va],.agg #[.bool (b<0),vb]] w fun e w'=>(∃ r1:Value,e=.returned (.agg #[.bool (z<0),r1])∧Rn w' r1 z.natAbs)∧Gr w w':=by
 replace hz:=lh_ hz
 have HS:=lh_ h
 obtain ⟨ao_va,n_va,c_va,rfl⟩:=Rn.sl bx21
 obtain ⟨ao_vb,n_vb,c_vb,rfl⟩:=Rn.sl bx22
 go_enter Tryz.func210,Tryz.ntmps210
 have I:=lh_ (hp0 w)
 replace I:=lh_ ((I.out.ar bx21).ar bx22)
 simp only [lF,lG] at I
 clear bx21 bx22
 refine kSl fun K O=>?_;go_wp2
 refine kF_ O (al3_ I) fun Wx0 J=>?_;clear O K
 clear I;have I:=J;clear J
 generalize w.heap.size+1+1=gx25 at *
 generalize w.heap.size+1=gx24 at *
 refine wp_seq ?_
 have lx23:=kc2_ I
 have lx24:=kc3_ I
 refine ks5_ fun K O T Y=>?_
 iterate 5 refine tk ?_
 refine nz Y I O ?_;clear Y T I lx23 lx24 O K;intro vw1 I
 refine wp_cond_true (by rfl) ?_
 obtain ⟨u1,HZ1⟩:=ex_ (a.natAbs+b.natAbs)
 have su1:tw u1≤400000001:=by rw [← HZ1.out];have:=qJ8 a.natAbs b.natAbs;omega
 have HZ2:Hid ((if decide (a<0) then -((u1:Nat):Int) else ((u1:Nat):Int))=z):=lh_ (by rw [← hz.out,← HZ1.out];exact xx6 HS.out)
 have lx23:=kc2_ I
 have lx24:=kc3_ I
 refine kS fun K O=>?_
 have HG0:Hid (Gr vw1 vw1):=lh_ (Gr.refl _)
 refine xp3 fun T Y=>?_
 iterate 6 refine tk ?_
 refine ce1 Tryz.call220 HG0 (fun w' hw=>xB5 _ _ a.natAbs b.natAbs u1 _ HZ1.out (I.out.r 0 rfl (HG0.out.trans hw)) (I.out.r 1 rfl (HG0.out.trans hw)) om om) ?_;clear HG0;intro vv27 HG0 _ ao1 nn1 cc1 RN27
 clear lx23;have lx23:=fun w' (h:Gr _ w')=>kc2_ I w' (HG0.out.trans h)
 clear lx24;have lx24:=fun w' (h:Gr _ w')=>kc3_ I w' (HG0.out.trans h)
 refine ce1 Tryz.call196 HG0 (fun w' hw=>qa8 (decide (a<0)) u1 z _ _ HZ2.out (RN27.out.gr hw)) ?_;clear HG0;intro vv28 HG0 HGS ao2 nn2 cc2 RN28
 replace RN27:=lh_ (RN27.out.gr HGS.out)
 clear HGS
 clear lx23;have lx23:=fun w' (h:Gr _ w')=>kc2_ I w' (HG0.out.trans h)
 clear lx24;have lx24:=fun w' (h:Gr _ w')=>kc3_ I w' (HG0.out.trans h)
 refine wpPlan_nil (Y.out _ _ ?_)
 intro G vw2 hg hf
 simp only [puts,Act.put,lA,lB,lC,lD,lE,↓reduceIte,Nat.reduceEqDiff]
 have J:=lh_ (((I.out.gr (HG0.out.trans hg)).ar (RN27.out.gr hg)).ar (RN28.out.gr hg))
 simp only [zq1_,zq2_,zq3_,zq4_,lF,lG] at J
 clear Y T I hg hf HG0 RN27 RN28 lx23 lx24
 have lx25:=kc4_ J;have fx25:=kf4_ J
 have r0:=Gr.refl vw2
 go_wp2
 refine kO O ?_;clear O K
 clear r0 lx25 fx25
 refine fH (((J.out).put2 4 0 rfl).er 5) fun Wx2 I=>?_
 clear J
 refine wp_ret ?_
 try simp only [Exit.then,Exit.inBlock]
 have lx25:=kc4_ I
 have r0:=Gr.refl Wx2
 exact bR ⟨⟨(.slice ao2 nn2 cc2),rfl,(I.out.rn 5 rfl)⟩,I.out.1⟩ (by simp [results,Tryz.results210,go_sem,lx25 _ r0])
theorem xi9 (a b z:Int) (c:Int) (va vb:Value) (w:World) (hz:a+b=z) (h:(decide (a<0) == decide (b<0))=false) (hc:Hid (cmpI (a.natAbs:Int) (b.natAbs:Int)=c)) (hc0:decide (0≤c)=true) (hs_a:tw (Int.natAbs a)≤400000000) (hs_b:tw (Int.natAbs b)≤400000000) (bx21:Rn w va a.natAbs) (bx22:Rn w vb b.natAbs) :
  Calls Tryz.prog 210 #[.agg #[.bool (a<0),va],.agg #[.bool (b<0),vb]] w fun e w'=>(∃ r1:Value,e=.returned (.agg #[.bool (z<0),r1])∧Rn w' r1 z.natAbs)∧Gr w w':=by
 replace hz:=lh_ hz
 have HS:=lh_ h
 have HLE:Hid (b.natAbs≤a.natAbs):=lh_ (xm6 (by rw [hc.out];exact of_decide_eq_true hc0))
 obtain ⟨ao_va,n_va,c_va,rfl⟩:=Rn.sl bx21
 obtain ⟨ao_vb,n_vb,c_vb,rfl⟩:=Rn.sl bx22
 go_enter Tryz.func210,Tryz.ntmps210
 have I:=lh_ (hp0 w)
 replace I:=lh_ ((I.out.ar bx21).ar bx22)
 simp only [lF,lG] at I
 clear bx21 bx22
 refine kSl fun K O=>?_;go_wp2
 refine kF_ O (al3_ I) fun Wx0 J=>?_;clear O K
 clear I;have I:=J;clear J
 generalize w.heap.size+1+1=gx25 at *
 generalize w.heap.size+1=gx24 at *
 refine wp_seq ?_
 have lx23:=kc2_ I
 have lx24:=kc3_ I
 refine ks5_ fun K O T Y=>?_
 iterate 5 refine tk ?_
 refine nz Y I O ?_;clear Y T I lx23 lx24 O K;intro vw1 I
 refine wp_cond_false (by rfl) ?_
 refine wp_skip ?_
 show Code.wp _ _ _ _ _
 refine wp_seq ?_
 have lx23:=kc2_ I
 have lx24:=kc3_ I
 refine qa2 fun K O T Y=>?_
 iterate 4 refine tk ?_
 refine ck Tryz.call219 (fun w' hw=>xB6 _ _ a.natAbs b.natAbs c _ (hc.out) (I.out.r 0 rfl hw) (I.out.r 1 rfl hw) om om) ?_
 refine tk ?_
 refine nz Y I O ?_;clear Y T I lx23 lx24 O K;intro vw2 I
 refine wp_cond_true (by rfl) ?_
 obtain ⟨u1,HZ1⟩:=ex_ (a.natAbs - b.natAbs)
 have su1:tw u1≤400000000:=by rw [← HZ1.out];have:=xl6 a.natAbs b.natAbs;omega
 have HZ2:Hid ((if decide (a<0) then -((u1:Nat):Int) else ((u1:Nat):Int))=z):=lh_ (by rw [← hz.out,← HZ1.out];exact xl1 HS.out HLE.out)
 have lx23:=kc2_ I
 have lx24:=kc3_ I
 refine kS fun K O=>?_
 have HG0:Hid (Gr vw2 vw2):=lh_ (Gr.refl _)
 refine xp3 fun T Y=>?_
 iterate 6 refine tk ?_
 refine ce1 Tryz.call244 HG0 (fun w' hw=>xu0 _ _ a.natAbs b.natAbs u1 _ HZ1.out (I.out.r 0 rfl (HG0.out.trans hw)) (I.out.r 1 rfl (HG0.out.trans hw)) HLE.out om om) ?_;clear HG0;intro vv27 HG0 _ ao1 nn1 cc1 RN27
 clear lx23;have lx23:=fun w' (h:Gr _ w')=>kc2_ I w' (HG0.out.trans h)
 clear lx24;have lx24:=fun w' (h:Gr _ w')=>kc3_ I w' (HG0.out.trans h)
 refine ce1 Tryz.call196 HG0 (fun w' hw=>qa8 (decide (a<0)) u1 z _ _ HZ2.out (RN27.out.gr hw)) ?_;clear HG0;intro vv28 HG0 HGS ao2 nn2 cc2 RN28
 replace RN27:=lh_ (RN27.out.gr HGS.out)
 clear HGS
 clear lx23;have lx23:=fun w' (h:Gr _ w')=>kc2_ I w' (HG0.out.trans h)
 clear lx24;have lx24:=fun w' (h:Gr _ w')=>kc3_ I w' (HG0.out.trans h)
 refine wpPlan_nil (Y.out _ _ ?_)
 intro G vw3 hg hf
 simp only [puts,Act.put,lA,lB,lC,lD,lE,↓reduceIte,Nat.reduceEqDiff]
 have J:=lh_ (((I.out.gr (HG0.out.trans hg)).ar (RN27.out.gr hg)).ar (RN28.out.gr hg))
 simp only [zq1_,zq2_,zq3_,zq4_,lF,lG] at J
 clear Y T I hg hf HG0 RN27 RN28 lx23 lx24
 have lx25:=kc4_ J;have fx25:=kf4_ J
 have r0:=Gr.refl vw3
 go_wp2
 refine kO O ?_;clear O K
 clear r0 lx25 fx25
 refine fH (((J.out).put2 4 0 rfl).er 5) fun Wx4 I=>?_
 clear J
 refine wp_ret ?_
 try simp only [Exit.then,Exit.inBlock]
 have lx25:=kc4_ I
 have r0:=Gr.refl Wx4
 exact bR ⟨⟨(.slice ao2 nn2 cc2),rfl,(I.out.rn 5 rfl)⟩,I.out.1⟩ (by simp [results,Tryz.results210,go_sem,lx25 _ r0])
theorem xi8 (a b z:Int) (c:Int) (va vb:Value) (w:World) (hz:a+b=z) (h:(decide (a<0) == decide (b<0))=false) (hc:Hid (cmpI (a.natAbs:Int) (b.natAbs:Int)=c)) (hc0:decide (0≤c)=false) (hs_a:tw (Int.natAbs a)≤400000000) (hs_b:tw (Int.natAbs b)≤400000000) (bx21:Rn w va a.natAbs) (bx22:Rn w vb b.natAbs) :
  Calls Tryz.prog 210 #[.agg #[.bool (a<0),va],.agg #[.bool (b<0),vb]] w fun e w'=>(∃ r1:Value,e=.returned (.agg #[.bool (z<0),r1])∧Rn w' r1 z.natAbs)∧Gr w w':=by
 replace hz:=lh_ hz
 have HS:=lh_ h
 have HLE:Hid (a.natAbs≤b.natAbs):=lh_ (xb6 (by rw [hc.out];exact of_decide_eq_false hc0))
 obtain ⟨ao_va,n_va,c_va,rfl⟩:=Rn.sl bx21
 obtain ⟨ao_vb,n_vb,c_vb,rfl⟩:=Rn.sl bx22
 go_enter Tryz.func210,Tryz.ntmps210
 have I:=lh_ (hp0 w)
 replace I:=lh_ ((I.out.ar bx21).ar bx22)
 simp only [lF,lG] at I
 clear bx21 bx22
 refine kSl fun K O=>?_;go_wp2
 refine kF_ O (al3_ I) fun Wx0 J=>?_;clear O K
 clear I;have I:=J;clear J
 generalize w.heap.size+1+1=gx25 at *
 generalize w.heap.size+1=gx24 at *
 refine wp_seq ?_
 have lx23:=kc2_ I
 have lx24:=kc3_ I
 refine ks5_ fun K O T Y=>?_
 iterate 5 refine tk ?_
 refine nz Y I O ?_;clear Y T I lx23 lx24 O K;intro vw1 I
 refine wp_cond_false (by rfl) ?_
 refine wp_skip ?_
 show Code.wp _ _ _ _ _
 refine wp_seq ?_
 have lx23:=kc2_ I
 have lx24:=kc3_ I
 refine qa2 fun K O T Y=>?_
 iterate 4 refine tk ?_
 refine ck Tryz.call219 (fun w' hw=>xB6 _ _ a.natAbs b.natAbs c _ (hc.out) (I.out.r 0 rfl hw) (I.out.r 1 rfl hw) om om) ?_
 refine tk ?_
 refine nz Y I O ?_;clear Y T I lx23 lx24 O K;intro vw2 I
 refine wp_cond_false (by rfl) ?_
 refine wp_skip ?_
 show Code.wp _ _ _ _ _
 obtain ⟨u1,HZ1⟩:=ex_ (b.natAbs - a.natAbs)
 have su1:tw u1≤400000000:=by rw [← HZ1.out];have:=xl6 b.natAbs a.natAbs;omega
 have HZ2:Hid ((if decide (b<0) then -((u1:Nat):Int) else ((u1:Nat):Int))=z):=lh_ (by rw [← hz.out,← HZ1.out];exact xx7 HS.out HLE.out)
 have lx23:=kc2_ I
 have lx24:=kc3_ I
 refine kS fun K O=>?_
 have HG0:Hid (Gr vw2 vw2):=lh_ (Gr.refl _)
 refine xp3 fun T Y=>?_
 iterate 6 refine tk ?_
 refine ce1 Tryz.call244 HG0 (fun w' hw=>xu0 _ _ b.natAbs a.natAbs u1 _ HZ1.out (I.out.r 1 rfl (HG0.out.trans hw)) (I.out.r 0 rfl (HG0.out.trans hw)) HLE.out om om) ?_;clear HG0;intro vv27 HG0 _ ao1 nn1 cc1 RN27
 clear lx23;have lx23:=fun w' (h:Gr _ w')=>kc2_ I w' (HG0.out.trans h)
 clear lx24;have lx24:=fun w' (h:Gr _ w')=>kc3_ I w' (HG0.out.trans h)
 refine ce1 Tryz.call196 HG0 (fun w' hw=>qa8 (decide (b<0)) u1 z _ _ HZ2.out (RN27.out.gr hw)) ?_;clear HG0;intro vv28 HG0 HGS ao2 nn2 cc2 RN28
 replace RN27:=lh_ (RN27.out.gr HGS.out)
 clear HGS
 clear lx23;have lx23:=fun w' (h:Gr _ w')=>kc2_ I w' (HG0.out.trans h)
 clear lx24;have lx24:=fun w' (h:Gr _ w')=>kc3_ I w' (HG0.out.trans h)
 refine wpPlan_nil (Y.out _ _ ?_)
 intro G vw3 hg hf
 simp only [puts,Act.put,lA,lB,lC,lD,lE,↓reduceIte,Nat.reduceEqDiff]
 have J:=lh_ (((I.out.gr (HG0.out.trans hg)).ar (RN27.out.gr hg)).ar (RN28.out.gr hg))
 simp only [zq1_,zq2_,zq3_,zq4_,lF,lG] at J
 clear Y T I hg hf HG0 RN27 RN28 lx23 lx24
 have lx25:=kc4_ J;have fx25:=kf4_ J
 have r0:=Gr.refl vw3
 go_wp2
 refine kO O ?_;clear O K
 clear r0 lx25 fx25
 refine fH (((((((J.out).put2 4 0 rfl).er 5).er 3).er 2).er 1).er 0) fun Wx5 I=>?_
 clear J
 refine wp_ret ?_
 try simp only [Exit.then,Exit.inBlock]
 have lx25:=kc0_ I
 have r0:=Gr.refl Wx5
 exact bR ⟨⟨(.slice ao2 nn2 cc2),rfl,(I.out.rn 1 rfl)⟩,I.out.1⟩ (by simp [results,Tryz.results210,go_sem,lx25 _ r0])
theorem qo6 (a b z:Int) (va vb:Value) (w:World) (hz:a+b=z) (hs_a:tw (Int.natAbs a)≤400000000) (hs_b:tw (Int.natAbs b)≤400000000) (bx21:Rn w va a.natAbs) (bx22:Rn w vb b.natAbs) :
  Calls Tryz.prog 210 #[.agg #[.bool (a<0),va],.agg #[.bool (b<0),vb]] w fun e w'=>(∃ r1:Value,e=.returned (.agg #[.bool (z<0),r1])∧Rn w' r1 z.natAbs)∧Gr w w':=by
 cases h:(decide (a<0) == decide (b<0))
 ·cases hc:decide (0≤cmpI (a.natAbs:Int) (b.natAbs:Int))
  ·exact xi8 a b z _ va vb w hz h (lh_ rfl) hc hs_a hs_b bx21 bx22
  exact xi9 a b z _ va vb w hz h (lh_ rfl) hc hs_a hs_b bx21 bx22
 exact xa6 a b z va vb w hz h hs_a hs_b bx21 bx22
theorem qG9 (n z:Int) (w:World) (hz:n=z) (h1:-9223372036854775808≤n) (h2:n≤9223372036854775807) :
  Calls Tryz.prog 211 #[.int .i64 n] w fun e w'=>(∃ v',e=.returned (.agg #[.bool (decide (z<0)),v'])∧Rn w' v' z.natAbs)∧Gr w w':=by
 subst hz
 obtain ⟨m,hm⟩:∃ m,n.natAbs=m:=⟨_,rfl⟩
 have hm2:m<18446744073709551616:=by omega
 by_cases h:n<0
 ·have hn:n = -((m:Nat):Int):=by omega
  have HN:Hid ((if true then -((m:Nat):Int) else ((m:Nat):Int))=n):=lh_ (by simp;omega)
  have e1:IntKind.u64.wrap (IntKind.u64.wrap (IntKind.i64.wrap (-IntKind.i64.wrap (n+1)))+1)=((m:Nat):Int):=by
   rw [IntKind.wrap_i64,IntKind.wrap_i64,IntKind.wrap_u64,IntKind.wrap_u64];omega
  have e2:IntKind.u64.wrap (-(n+1)+1)=((m:Nat):Int):=by rw [IntKind.wrap_u64];omega
  have e3:-(n+1)+1=((m:Nat):Int):=by omega
  obtain ⟨W0,HW⟩:=ex_ (w.alloc (.cells #[.bool false,.slice none 0 0] 45))
  have HX:Hid (Bx W0 w.heap.size 45 #[.bool false,.slice none 0 0]):=lh_ (by rw [← HW.out];exact Bx.new _ _ _)
  have HB0:Hid (Below w.heap.size w W0):=lh_ (by rw [← HW.out];exact (Below.refl _ _).alloc (Nat.le_refl _) _)
  clear hm hn
  go_enter Tryz.func211,Tryz.ntmps211
  go_wp2_with fail
  rw [HW.out]
  refine (qj_ m _ hm2).mono ?_
  rintro e w1 ⟨⟨v1,rfl,hv⟩,hb⟩
  have HV:=lh_ hv
  have HB1:Hid (Gr W0 w1):=lh_ hb
  clear hv hb
  go_wp2_with fail
  refine (qa8 true m n v1 w1 HN.out HV.out).mono ?_
  rintro e w2 ⟨⟨v2,rfl,hv⟩,hb⟩
  obtain ⟨ao,nn,cc,rfl⟩:=Rn.sl hv
  have HB2:Hid (Gr W0 w2):=lh_ (Gr.trans HB1.out hb)
  have bx2:=HX.out.gr HB2.out
  have HV2:=lh_ hv
  have HNE:=lh_ (Rn.ne hv bx2 (by decide))
  have lx:=bx2.cells
  have fx:=bx2.free
  have r0:=Gr.refl w2
  clear hv hb bx2 HV HX HW
  go_wp2
  exact bodyPost_ret (v:=.agg #[.bool (decide (n<0)),.slice ao nn cc]) (by simp [results,Tryz.results211,go_sem,lx _ r0,h]) rfl
   ⟨⟨_,rfl,(HV2.out.setOther HNE.out _).setOther HNE.out _⟩,((Gr.trans HB0.out HB2.out).setCell (Nat.le_refl _) _).setCell (Nat.le_refl _) _⟩
 have hn:n=((m:Nat):Int):=by omega
 have HN:Hid ((if false then -((m:Nat):Int) else ((m:Nat):Int))=n):=lh_ (by simp;omega)
 have e1:IntKind.u64.wrap n=((m:Nat):Int):=by rw [IntKind.wrap_u64];omega
 obtain ⟨W0,HW⟩:=ex_ (w.alloc (.cells #[.bool false,.slice none 0 0] 45))
 have HX:Hid (Bx W0 w.heap.size 45 #[.bool false,.slice none 0 0]):=lh_ (by rw [← HW.out];exact Bx.new _ _ _)
 have HB0:Hid (Below w.heap.size w W0):=lh_ (by rw [← HW.out];exact (Below.refl _ _).alloc (Nat.le_refl _) _)
 clear hm hn
 go_enter Tryz.func211,Tryz.ntmps211
 go_wp2_with fail
 rw [HW.out]
 refine (qj_ m _ hm2).mono ?_
 rintro e w1 ⟨⟨v1,rfl,hv⟩,hb⟩
 have HV:=lh_ hv
 have HB1:Hid (Gr W0 w1):=lh_ hb
 clear hv hb
 go_wp2_with fail
 refine (qa8 false m n v1 w1 HN.out HV.out).mono ?_
 rintro e w2 ⟨⟨v2,rfl,hv⟩,hb⟩
 obtain ⟨ao,nn,cc,rfl⟩:=Rn.sl hv
 have HB2:Hid (Gr W0 w2):=lh_ (Gr.trans HB1.out hb)
 have bx2:=HX.out.gr HB2.out
 have HV2:=lh_ hv
 have HNE:=lh_ (Rn.ne hv bx2 (by decide))
 have lx:=bx2.cells
 have fx:=bx2.free
 have r0:=Gr.refl w2
 clear hv hb bx2 HV HX HW
 go_wp2
 exact bodyPost_ret (v:=.agg #[.bool (decide (n<0)),.slice ao nn cc]) (by simp [results,Tryz.results211,go_sem,lx _ r0,h]) rfl
  ⟨⟨_,rfl,(HV2.out.setOther HNE.out _).setOther HNE.out _⟩,((Gr.trans HB0.out HB2.out).setCell (Nat.le_refl _) _).setCell (Nat.le_refl _) _⟩
end
section
open Go.RowKit
attribute [local go_sem ↓] Go.wp_at_zero Go.wp_at_succ
theorem qJ3 (w:World)  :
  Calls Tryz.prog 221 #[] w fun e w'=>(∃ r1:Value,e=.returned r1∧Rn w' r1 (1))∧Gr w w':=by
 go_enter Tryz.func221,Tryz.ntmps221
 have I:=lh_ (hp0 w)
 refine kSl fun K O=>?_;go_wp2
 refine kF_ O (I.out) fun Wx0 J=>?_;clear O K
 clear I;have I:=J;clear J
 refine kS fun K O=>?_
 have HG0:Hid (Gr Wx0 Wx0):=lh_ (Gr.refl _)
 refine qE9 fun T Y=>?_
 refine ce1 Tryz.call179 HG0 (fun w' hw=>qj_ 1 _ (by decide)) ?_;clear HG0;intro vv1 HG0 _ ao1 nn1 cc1 RN1
 refine tk ?_
 refine nzR Y O (fun w2 hg=>(I.out.gr (HG0.out.trans hg)).ar (RN1.out.gr hg)) ?_;clear Y T I HG0 RN1 O K;intro vw1 I
 refine wp_ret ?_
 try simp only [Exit.then,Exit.inBlock]
 exact bR ⟨⟨(.slice ao1 nn1 cc1),rfl,(I.out.rn 0 rfl)⟩,I.out.1⟩ (by simp [results,Tryz.results221,go_sem])
theorem qg7 (a:Rat) (z:Nat) (va1 va2:Value) (w:World) (hz:a.den=z) (hs_a:rz a≤400000000) (bx21:Rn w va1 a.num.natAbs) (bx22:Rn w va2 (a.den - 1)) :
  Calls Tryz.prog 150 #[.agg #[.bool (decide (a.num<0)),va1,va2]] w fun e w'=>(∃ r1:Value,e=.returned r1∧Rn w' r1 z)∧Gr w w':=by
 replace hz:=lh_ hz
 have hn_a:=Nat.le_trans (qe1 a) hs_a
 have hd_a:=Nat.le_trans (qc8 a) hs_a
 have he_a:=Nat.le_trans (qc7 (Nat.sub_le a.den 1)) hd_a
 have hp_a:0<a.den:=a.den_pos
 obtain ⟨ao_va1,n_va1,c_va1,rfl⟩:=Rn.sl bx21
 obtain ⟨ao_va2,n_va2,c_va2,rfl⟩:=Rn.sl bx22
 go_enter Tryz.func150,Tryz.ntmps150
 have I:=lh_ (hp0 w)
 replace I:=lh_ ((I.out.ar bx21).ar bx22)
 simp only [lF,lG] at I
 clear bx21 bx22
 refine kSl fun K O=>?_;go_wp2
 refine kF_ O (al1_ I) fun Wx0 J=>?_;clear O K
 clear I;have I:=J;clear J
 have hone:tw 1≤1:=qk9 (by decide)
 have HZ1:Hid ((a.den - 1)+(1)=z):=lh_ (by rw [← hz.out];exact Nat.sub_add_cancel hp_a)
 have lx23:=kc2_ I
 refine kS fun K O=>?_
 have HG0:Hid (Gr Wx0 Wx0):=lh_ (Gr.refl _)
 refine xp4 fun T Y=>?_
 refine tk2_ ?_
 refine ce1 Tryz.call221 HG0 (fun w' hw=>qJ3 _) ?_;clear HG0;intro vv25 HG0 _ ao1 nn1 cc1 RN25
 clear lx23;have lx23:=fun w' (h:Gr _ w')=>kc2_ I w' (HG0.out.trans h)
 refine ce1 Tryz.call220 HG0 (fun w' hw=>xB5 _ _ (a.den - 1) (1) z _ HZ1.out (I.out.r 1 rfl (HG0.out.trans hw)) (RN25.out.gr hw) om om) ?_;clear HG0;intro vv26 HG0 HGS ao2 nn2 cc2 RN26
 replace RN25:=lh_ (RN25.out.gr HGS.out)
 clear HGS
 clear lx23;have lx23:=fun w' (h:Gr _ w')=>kc2_ I w' (HG0.out.trans h)
 refine wpPlan_nil (Y.out _ _ ?_)
 intro G vw1 hg hf
 simp only [puts,Act.put,lA,lB,lC,lD,lE,↓reduceIte,Nat.reduceEqDiff]
 have J:=lh_ (((I.out.gr (HG0.out.trans hg)).ar (RN25.out.gr hg)).ar (RN26.out.gr hg))
 simp only [zq1_,zq2_,zq3_,zq4_,lF,lG] at J
 clear Y T I hg hf HG0 RN25 RN26 lx23
 go_wp2
 refine kF_ O (((((J.out).er 3).er 2).er 1).er 0) fun Wx1 I=>?_;clear O K
 clear J
 refine wp_ret ?_
 try simp only [Exit.then,Exit.inBlock]
 exact bR ⟨⟨(.slice ao2 nn2 cc2),rfl,(I.out.rn 0 rfl)⟩,I.out.1⟩ (by simp [results,Tryz.results150,go_sem])
theorem qx7 (a:Rat) (z:Int) (va1 va2:Value) (w:World) (hz:((a.den:Nat):Int)=z) (hs_a:rz a≤400000000) (bx21:Rn w va1 a.num.natAbs) (bx22:Rn w va2 (a.den - 1)) :
  Calls Tryz.prog 215 #[.agg #[.bool (decide (a.num<0)),va1,va2]] w fun e w'=>(∃ r1:Value,e=.returned (.agg #[.bool (z<0),r1])∧Rn w' r1 z.natAbs)∧Gr w w':=by
 replace hz:=lh_ hz
 have hn_a:=Nat.le_trans (qe1 a) hs_a
 have hd_a:=Nat.le_trans (qc8 a) hs_a
 have he_a:=Nat.le_trans (qc7 (Nat.sub_le a.den 1)) hd_a
 have hp_a:0<a.den:=a.den_pos
 obtain ⟨ao_va1,n_va1,c_va1,rfl⟩:=Rn.sl bx21
 obtain ⟨ao_va2,n_va2,c_va2,rfl⟩:=Rn.sl bx22
 go_enter Tryz.func215,Tryz.ntmps215
 have I:=lh_ (hp0 w)
 replace I:=lh_ ((I.out.ar bx21).ar bx22)
 simp only [lF,lG] at I
 clear bx21 bx22
 refine kSl fun K O=>?_;go_wp2
 refine kF_ O (al2_ I) fun Wx0 J=>?_;clear O K
 clear I;have I:=J;clear J
 generalize w.heap.size+1=gx24 at *
 obtain ⟨u1,HZ1⟩:=ex_ (a.den)
 have su1:tw u1≤400000000:=by rw [← HZ1.out];have:=qc8 a;omega
 have HZ2:Hid ((if false then -((u1:Nat):Int) else ((u1:Nat):Int))=z):=lh_ (by rw [← hz.out,← HZ1.out];rfl)
 have lx23:=kc2_ I
 refine kS fun K O=>?_
 have HG0:Hid (Gr Wx0 Wx0):=lh_ (Gr.refl _)
 refine xq8 fun T Y=>?_
 refine tk ?_
 refine ce1 Tryz.call150 HG0 (fun w' hw=>qg7 a u1 _ _ _ HZ1.out om (I.out.r 0 rfl (HG0.out.trans hw)) (I.out.r 1 rfl (HG0.out.trans hw))) ?_;clear HG0;intro vv26 HG0 _ ao1 nn1 cc1 RN26
 clear lx23;have lx23:=fun w' (h:Gr _ w')=>kc2_ I w' (HG0.out.trans h)
 refine ce1 Tryz.call196 HG0 (fun w' hw=>qa8 (false) u1 z _ _ HZ2.out (RN26.out.gr hw)) ?_;clear HG0;intro vv27 HG0 HGS ao2 nn2 cc2 RN27
 replace RN26:=lh_ (RN26.out.gr HGS.out)
 clear HGS
 clear lx23;have lx23:=fun w' (h:Gr _ w')=>kc2_ I w' (HG0.out.trans h)
 refine wpPlan_nil (Y.out _ _ ?_)
 intro vw1 hg
 simp only [puts,Act.put,lA,lB,lC,lD,lE,↓reduceIte,Nat.reduceEqDiff]
 have J:=lh_ (((I.out.gr (HG0.out.trans hg)).ar (RN26.out.gr hg)).ar (RN27.out.gr hg))
 simp only [zq1_,zq2_,zq3_,zq4_,lF,lG] at J
 clear Y T I hg HG0 RN26 RN27 lx23
 have lx24:=kc3_ J;have fx24:=kf3_ J
 have r0:=Gr.refl vw1
 go_wp2
 refine kO O ?_;clear O K
 clear r0 lx24 fx24
 refine fH ((((((J.out).put2 3 0 rfl).er 4).er 2).er 1).er 0) fun Wx1 I=>?_
 clear J
 refine wp_ret ?_
 try simp only [Exit.then,Exit.inBlock]
 have lx24:=kc0_ I
 have r0:=Gr.refl Wx1
 exact bR ⟨⟨(.slice ao2 nn2 cc2),rfl,(I.out.rn 1 rfl)⟩,I.out.1⟩ (by simp [results,Tryz.results215,go_sem,lx24 _ r0])
theorem qj9 (n:Int) (d:Nat) (z:Rat) (vn vd:Value) (w:World) (hz:mkRat n d=z) (hd0:0<d) (hs_n:tw (Int.natAbs n)≤400000000) (hs_d:tw d≤400000000) (bx21:Rn w vn n.natAbs) (bx22:Rn w vd d) :
  Calls Tryz.prog 195 #[.agg #[.bool (n<0),vn],vd] w fun e w'=>(∃ r1 r2:Value,e=.returned (.agg #[.bool (decide (z.num<0)),r1,r2])∧Rn w' r1 z.num.natAbs∧Rn w' r2 (z.den - 1))∧Gr w w':=by
 replace hz:=lh_ hz
 obtain ⟨ao_vn,n_vn,c_vn,rfl⟩:=Rn.sl bx21
 obtain ⟨ao_vd,n_vd,c_vd,rfl⟩:=Rn.sl bx22
 go_enter Tryz.func195,Tryz.ntmps195
 have I:=lh_ (hp0 w)
 replace I:=lh_ ((I.out.ar bx21).ar bx22)
 simp only [lF,lG] at I
 clear bx21 bx22
 refine kSl fun K O=>?_;go_wp2
 refine kF_ O (al2_ I) fun Wx0 J=>?_;clear O K
 clear I;have I:=J;clear J
 generalize w.heap.size+1=gx24 at *
 obtain ⟨u1,HZ1⟩:=ex_ (Nat.gcd n.natAbs d)
 have su1:tw u1≤400000000:=by rw [← HZ1.out];have:=xy6 n.natAbs d;omega
 have lx23:=kc2_ I
 refine kS fun K O=>?_
 have HG0:Hid (Gr Wx0 Wx0):=lh_ (Gr.refl _)
 refine xq9 fun T Y=>?_
 refine tk3_ ?_
 refine ce1 Tryz.call248 HG0 (fun w' hw=>xE9 _ _ n.natAbs d u1 _ HZ1.out (I.out.r 0 rfl (HG0.out.trans hw)) (I.out.r 1 rfl (HG0.out.trans hw)) om om) ?_;clear HG0;intro vv26 HG0 _ ao1 nn1 cc1 RN26
 clear lx23;have lx23:=fun w' (h:Gr _ w')=>kc2_ I w' (HG0.out.trans h)
 refine tk ?_
 refine nzR Y O (fun w2 hg=>(I.out.gr (HG0.out.trans hg)).ar (RN26.out.gr hg)) ?_;clear Y T I HG0 RN26 lx23 O K;intro vw1 I
 obtain ⟨u2,HZ2⟩:=ex_ (n.natAbs / u1)
 have su2:tw u2≤400000000:=by rw [← HZ2.out];have:=qo0 n.natAbs u1;omega
 obtain ⟨u3,HZ3⟩:=ex_ (n.natAbs % u1)
 have su3:tw u3≤400000000:=by rw [← HZ3.out];have:=qr3 n.natAbs u1;omega
 have lx23:=kc2_ I
 refine kS fun K O=>?_
 have HG0:Hid (Gr vw1 vw1):=lh_ (Gr.refl _)
 refine sq9_ fun T Y=>?_
 refine tk3_ ?_
 refine ce2 Tryz.call176 HG0 (fun w' hw=>qB_ _ _ n.natAbs u1 u2 u3 _ HZ2.out HZ3.out (I.out.r 0 rfl (HG0.out.trans hw)) (I.out.r 4 rfl (HG0.out.trans hw)) (by rw [← HZ1.out];exact Nat.gcd_pos_of_pos_right _ hd0) om om) ?_;clear HG0;intro vv27 HG0 _ ao2 nn2 cc2 ao3 nn3 cc3 RN27 RN28
 clear lx23;have lx23:=fun w' (h:Gr _ w')=>kc2_ I w' (HG0.out.trans h)
 iterate 5 refine tk ?_
 refine nzR Y O (fun w2 hg=>(((I.out.gr (HG0.out.trans hg)).ar (RN27.out.gr hg)).ar (RN28.out.gr hg)).er 6) ?_;clear Y T I HG0 RN27 RN28 lx23 O K;intro Wx2 I
 obtain ⟨u4,HZ4⟩:=ex_ (d / u1)
 have su4:tw u4≤400000000:=by rw [← HZ4.out];have:=qo0 d u1;omega
 obtain ⟨u5,HZ5⟩:=ex_ (d % u1)
 have su5:tw u5≤400000000:=by rw [← HZ5.out];have:=qr3 d u1;omega
 refine kS fun K O=>?_
 have HG0:Hid (Gr Wx2 Wx2):=lh_ (Gr.refl _)
 refine sq8_ fun T Y=>?_
 refine tk2_ ?_
 refine ce2 Tryz.call176 HG0 (fun w' hw=>qB_ _ _ d u1 u4 u5 _ HZ4.out HZ5.out (I.out.r 1 rfl (HG0.out.trans hw)) (I.out.r 4 rfl (HG0.out.trans hw)) (by rw [← HZ1.out];exact Nat.gcd_pos_of_pos_right _ hd0) om om) ?_;clear HG0;intro vv29 HG0 _ ao4 nn4 cc4 ao5 nn5 cc5 RN29 RN30
 iterate 5 refine tk ?_
 refine nzR Y O (fun w2 hg=>(((((I.out.gr (HG0.out.trans hg)).ar (RN29.out.gr hg)).ar (RN30.out.gr hg)).er 7).er 4).er 1) ?_;clear Y T I HG0 RN29 RN30 O K;intro Wx3 I
 have HZ6:Hid ((if decide (n<0) then -((u2:Nat):Int) else ((u2:Nat):Int))=(z).num):=lh_ (by rw [← HZ2.out,← HZ1.out,← hz.out,← qU9 n d hd0];simp only [decide_eq_true_eq])
 have hone:tw 1≤1:=qk9 (by decide)
 have HZ7:Hid (u4 - (1)=(z).den - 1):=lh_ (by rw [← HZ4.out,← HZ1.out,← hz.out,← qD4 n d hd0])
 have lx23:=kc1_ I
 refine kS fun K O=>?_
 have HG0:Hid (Gr Wx3 Wx3):=lh_ (Gr.refl _)
 refine xr0 fun T Y=>?_
 refine tk3_ ?_
 refine ce1 Tryz.call196 HG0 (fun w' hw=>qa8 (decide (n<0)) u2 (z.num) _ _ HZ6.out (I.out.r 3 rfl (HG0.out.trans hw))) ?_;clear HG0;intro vv31 HG0 _ ao6 nn6 cc6 RN31
 clear lx23;have lx23:=fun w' (h:Gr _ w')=>kc1_ I w' (HG0.out.trans h)
 refine tk ?_
 refine ce1 Tryz.call221 HG0 (fun w' hw=>qJ3 _) ?_;clear HG0;intro vv32 HG0 HGS ao7 nn7 cc7 RN32
 replace RN31:=lh_ (RN31.out.gr HGS.out)
 clear HGS
 clear lx23;have lx23:=fun w' (h:Gr _ w')=>kc1_ I w' (HG0.out.trans h)
 refine ce1 Tryz.call244 HG0 (fun w' hw=>xu0 _ _ u4 (1) (z.den - 1) _ HZ7.out (I.out.r 4 rfl (HG0.out.trans hw)) (RN32.out.gr hw) (by rw [← HZ4.out,← HZ1.out];exact Nat.div_pos (Nat.gcd_le_right _ hd0) (Nat.gcd_pos_of_pos_right _ hd0)) om om) ?_;clear HG0;intro vv33 HG0 HGS ao8 nn8 cc8 RN33
 replace RN31:=lh_ (RN31.out.gr HGS.out)
 replace RN32:=lh_ (RN32.out.gr HGS.out)
 clear HGS
 clear lx23;have lx23:=fun w' (h:Gr _ w')=>kc1_ I w' (HG0.out.trans h)
 refine tk ?_
 refine wpPlan_nil (Y.out _ _ ?_)
 intro vw4 hg
 simp only [puts,Act.put,lA,lB,lC,lD,lE,↓reduceIte,Nat.reduceEqDiff]
 have J:=lh_ ((((I.out.gr (HG0.out.trans hg)).ar (RN31.out.gr hg)).ar (RN32.out.gr hg)).ar (RN33.out.gr hg))
 simp only [zq1_,zq2_,zq3_,zq4_,lF,lG] at J
 clear Y T I hg HG0 RN31 RN32 RN33 lx23
 have lx24:=kc2_ J;have fx24:=kf2_ J
 have r0:=Gr.refl vw4
 go_wp2
 refine kO O ?_;clear O K
 clear r0 lx24 fx24
 refine fH ((((((((J.out).put2 2 0 rfl).put 2 2 _ rfl).er 6).er 4).er 3).er 1).er 0) fun Wx4 I=>?_
 clear J
 refine wp_ret ?_
 try simp only [Exit.then,Exit.inBlock]
 have lx24:=kc0_ I
 have r0:=Gr.refl Wx4
 exact bR ⟨⟨(.slice ao6 nn6 cc6),(.slice ao8 nn8 cc8),rfl,(I.out.rn 1 rfl),(I.out.rn 2 rfl)⟩,I.out.1⟩ (by simp [results,Tryz.results195,go_sem,lx24 _ r0])
theorem qd5 (a:Rat) (t:Int) (va1 va2:Value) (w:World) (ht:sgQ a=t) (bx21:Rn w va1 a.num.natAbs) (bx22:Rn w va2 (a.den - 1)) :
  CB 88 #[.agg #[.bool (decide (a.num<0)),va1,va2]] w (.int .i64 t):=by
 replace ht:=lh_ ht
 obtain ⟨ao_va1,n_va1,c_va1,rfl⟩:=Rn.sl bx21
 obtain ⟨ao_va2,n_va2,c_va2,rfl⟩:=Rn.sl bx22
 go_enter Tryz.func88,Tryz.ntmps88
 have I:=lh_ (hp0 w)
 replace I:=lh_ ((I.out.ar bx21).ar bx22)
 simp only [lF,lG] at I
 clear bx21 bx22
 refine kSl fun K O=>?_;go_wp2
 refine kF_ O (al1_ I) fun Wx0 J=>?_;clear O K
 clear I;have I:=J;clear J
 have lx23:=kc2_ I
 refine qb2 fun K O T Y=>?_
 refine tk2_ ?_
 refine ck Tryz.call194 (fun w' hw=>qC0 (a.num) t _ _ (by rw [← ht.out,qu3];rfl) (I.out.r 0 rfl hw)) ?_
 refine tk ?_
 refine nzR Y O (fun w2 hg=>(((I.out.gr hg).er 2).er 1).er 0) ?_;clear Y T I lx23 O K;intro Wx1 I
 refine wp_ret ?_
 try simp only [Exit.then,Exit.inBlock]
 exact bR ⟨rfl,I.out.1⟩ (by simp [results,Tryz.results88,go_sem])
theorem qk6 (a z:Rat) (va1 va2:Value) (w:World) (hz:-a=z) (bx21:Rn w va1 a.num.natAbs) (bx22:Rn w va2 (a.den - 1)) :
  Calls Tryz.prog 136 #[.agg #[.bool (decide (a.num<0)),va1,va2]] w fun e w'=>(∃ r1 r2:Value,e=.returned (.agg #[.bool (decide (z.num<0)),r1,r2])∧Rn w' r1 z.num.natAbs∧Rn w' r2 (z.den - 1))∧Gr w w':=by
 replace hz:=lh_ hz
 obtain ⟨ao_va1,n_va1,c_va1,rfl⟩:=Rn.sl bx21
 obtain ⟨ao_va2,n_va2,c_va2,rfl⟩:=Rn.sl bx22
 go_enter Tryz.func136,Tryz.ntmps136
 have I:=lh_ (hp0 w)
 replace I:=lh_ ((I.out.ar bx21).ar bx22)
 simp only [lF,lG] at I
 clear bx21 bx22
 refine kSl fun K O=>?_;go_wp2
 refine kF_ O (al2_ I) fun Wx0 J=>?_;clear O K
 clear I;have I:=J;clear J
 generalize w.heap.size+1=gx24 at *
 have HZ1:Hid (-(a.num)=(z).num):=lh_ (by rw [← hz.out,Rat.neg_num])
 have lx23:=kc2_ I
 refine kS fun K O=>?_
 have HG0:Hid (Gr Wx0 Wx0):=lh_ (Gr.refl _)
 refine xD2 fun T Y=>?_
 iterate 4 refine tk ?_
 refine ce1 Tryz.call216 HG0 (fun w' hw=>qK1 (a.num) (z.num) _ _ HZ1.out (I.out.r 0 rfl (HG0.out.trans hw))) ?_;clear HG0;intro vv26 HG0 _ ao1 nn1 cc1 RN26
 clear lx23;have lx23:=fun w' (h:Gr _ w')=>kc2_ I w' (HG0.out.trans h)
 refine tk ?_
 refine wpPlan_nil (Y.out _ _ ?_)
 intro G vw1 hg hf
 simp only [puts,Act.put,lA,lB,lC,lD,lE,↓reduceIte,Nat.reduceEqDiff]
 have J:=lh_ ((I.out.gr (HG0.out.trans hg)).ar (RN26.out.gr hg))
 simp only [zq1_,zq2_,zq3_,zq4_,lF,lG] at J
 clear Y T I hg hf HG0 RN26 lx23
 have lx24:=kc3_ J;have fx24:=kf3_ J
 have r0:=Gr.refl vw1
 go_wp2
 refine kO O ?_;clear O K
 clear r0 lx24 fx24
 refine fH (((((J.out).put2 3 0 rfl).put 3 2 _ rfl).er 2).er 0) fun Wx1 I=>?_
 clear J
 refine wp_ret ?_
 try simp only [Exit.then,Exit.inBlock]
 have lx24:=kc1_ I
 have r0:=Gr.refl Wx1
 exact bR ⟨⟨(.slice ao1 nn1 cc1),(.slice ao_va2 n_va2 c_va2),rfl,(I.out.rn 2 rfl),(by rw [show z.den - 1=(a).den - 1 from by rw [← hz.out,Rat.neg_den]];exact (I.out.rn 0 rfl))⟩,I.out.1⟩ (by simp [results,Tryz.results136,go_sem,lx24 _ r0])
theorem qn1 (a b z:Rat) (va1 va2 vb1 vb2:Value) (w:World) (hz:a+b=z) (hs_a:rz a≤100000000) (hs_b:rz b≤100000000) (bx21:Rn w va1 a.num.natAbs) (bx22:Rn w va2 (a.den - 1)) (bx23:Rn w vb1 b.num.natAbs) (bx24:Rn w vb2 (b.den - 1)) :
  Calls Tryz.prog 131 #[.agg #[.bool (decide (a.num<0)),va1,va2],.agg #[.bool (decide (b.num<0)),vb1,vb2]] w fun e w'=>(∃ r1 r2:Value,e=.returned (.agg #[.bool (decide (z.num<0)),r1,r2])∧Rn w' r1 z.num.natAbs∧Rn w' r2 (z.den - 1))∧Gr w w':=by
 replace hz:=lh_ hz
 have hn_a:=Nat.le_trans (qe1 a) hs_a
 have hd_a:=Nat.le_trans (qc8 a) hs_a
 have he_a:=Nat.le_trans (qc7 (Nat.sub_le a.den 1)) hd_a
 have hp_a:0<a.den:=a.den_pos
 have hn_b:=Nat.le_trans (qe1 b) hs_b
 have hd_b:=Nat.le_trans (qc8 b) hs_b
 have he_b:=Nat.le_trans (qc7 (Nat.sub_le b.den 1)) hd_b
 have hp_b:0<b.den:=b.den_pos
 obtain ⟨ao_va1,n_va1,c_va1,rfl⟩:=Rn.sl bx21
 obtain ⟨ao_va2,n_va2,c_va2,rfl⟩:=Rn.sl bx22
 obtain ⟨ao_vb1,n_vb1,c_vb1,rfl⟩:=Rn.sl bx23
 obtain ⟨ao_vb2,n_vb2,c_vb2,rfl⟩:=Rn.sl bx24
 go_enter Tryz.func131,Tryz.ntmps131
 have I:=lh_ (hp0 w)
 replace I:=lh_ ((((I.out.ar bx21).ar bx22).ar bx23).ar bx24)
 simp only [lF,lG] at I
 clear bx21 bx22 bx23 bx24
 refine kSl fun K O=>?_;go_wp2
 refine kF_ O (al3_ I) fun Wx0 J=>?_;clear O K
 clear I;have I:=J;clear J
 generalize w.heap.size+1+1=gx27 at *
 generalize w.heap.size+1=gx26 at *
 obtain ⟨u1,HZ1⟩:=ex_ (((b.den:Nat):Int))
 have su1:tw (Int.natAbs u1)≤100000000:=by rw [← HZ1.out];have:=qc8 b;rw [Int.natAbs_natCast];omega
 obtain ⟨u2,HZ2⟩:=ex_ ((a.num)*(u1))
 have su2:tw (Int.natAbs u2)≤200000000:=by rw [← HZ2.out];have:=qF4 (a.num) u1;omega
 obtain ⟨u3,HZ3⟩:=ex_ (((a.den:Nat):Int))
 have su3:tw (Int.natAbs u3)≤100000000:=by rw [← HZ3.out];have:=qc8 a;rw [Int.natAbs_natCast];omega
 obtain ⟨u4,HZ4⟩:=ex_ ((b.num)*(u3))
 have su4:tw (Int.natAbs u4)≤200000000:=by rw [← HZ4.out];have:=qF4 (b.num) u3;omega
 obtain ⟨u5,HZ5⟩:=ex_ (u2+(u4))
 have su5:tw (Int.natAbs u5)≤200000001:=by rw [← HZ5.out];have:=qp_ u2 u4;omega
 obtain ⟨u6,HZ6⟩:=ex_ (a.den)
 have su6:tw u6≤100000000:=by rw [← HZ6.out];have:=qc8 a;omega
 obtain ⟨u7,HZ7⟩:=ex_ (b.den)
 have su7:tw u7≤100000000:=by rw [← HZ7.out];have:=qc8 b;omega
 obtain ⟨u8,HZ8⟩:=ex_ (u6*(u7))
 have su8:tw u8≤200000000:=by rw [← HZ8.out];have:=qj1 u6 u7;omega
 have HZ9:Hid (mkRat u5 u8=z):=lh_ (by simp only [← HZ8.out,← HZ7.out,← HZ6.out,← HZ5.out,← HZ4.out,← HZ3.out,← HZ2.out,← HZ1.out];rw [← hz.out];exact (Rat.add_def' a b).symm)
 have lx25:=kc4_ I
 have lx26:=kc5_ I
 refine kS fun K O=>?_
 have HG0:Hid (Gr Wx0 Wx0):=lh_ (Gr.refl _)
 refine xD3 fun T Y=>?_
 iterate 8 refine tk ?_
 refine ce1 Tryz.call215 HG0 (fun w' hw=>qx7 b u1 _ _ _ HZ1.out om (I.out.r 2 rfl (HG0.out.trans hw)) (I.out.r 3 rfl (HG0.out.trans hw))) ?_;clear HG0;intro vv29 HG0 _ ao1 nn1 cc1 RN29
 clear lx25;have lx25:=fun w' (h:Gr _ w')=>kc4_ I w' (HG0.out.trans h)
 clear lx26;have lx26:=fun w' (h:Gr _ w')=>kc5_ I w' (HG0.out.trans h)
 refine ce1 Tryz.call214 HG0 (fun w' hw=>qy8 (a.num) u1 u2 _ _ _ HZ2.out om om (I.out.r 0 rfl (HG0.out.trans hw)) (RN29.out.gr hw)) ?_;clear HG0;intro vv30 HG0 HGS ao2 nn2 cc2 RN30
 replace RN29:=lh_ (RN29.out.gr HGS.out)
 clear HGS
 clear lx25;have lx25:=fun w' (h:Gr _ w')=>kc4_ I w' (HG0.out.trans h)
 clear lx26;have lx26:=fun w' (h:Gr _ w')=>kc5_ I w' (HG0.out.trans h)
 refine ce1 Tryz.call215 HG0 (fun w' hw=>qx7 a u3 _ _ _ HZ3.out om (I.out.r 0 rfl (HG0.out.trans hw)) (I.out.r 1 rfl (HG0.out.trans hw))) ?_;clear HG0;intro vv31 HG0 HGS ao3 nn3 cc3 RN31
 replace RN29:=lh_ (RN29.out.gr HGS.out)
 replace RN30:=lh_ (RN30.out.gr HGS.out)
 clear HGS
 clear lx25;have lx25:=fun w' (h:Gr _ w')=>kc4_ I w' (HG0.out.trans h)
 clear lx26;have lx26:=fun w' (h:Gr _ w')=>kc5_ I w' (HG0.out.trans h)
 refine ce1 Tryz.call214 HG0 (fun w' hw=>qy8 (b.num) u3 u4 _ _ _ HZ4.out om om (I.out.r 2 rfl (HG0.out.trans hw)) (RN31.out.gr hw)) ?_;clear HG0;intro vv32 HG0 HGS ao4 nn4 cc4 RN32
 replace RN29:=lh_ (RN29.out.gr HGS.out)
 replace RN30:=lh_ (RN30.out.gr HGS.out)
 replace RN31:=lh_ (RN31.out.gr HGS.out)
 clear HGS
 clear lx25;have lx25:=fun w' (h:Gr _ w')=>kc4_ I w' (HG0.out.trans h)
 clear lx26;have lx26:=fun w' (h:Gr _ w')=>kc5_ I w' (HG0.out.trans h)
 refine ce1 Tryz.call210 HG0 (fun w' hw=>qo6 u2 u4 u5 _ _ _ HZ5.out om om (RN30.out.gr hw) (RN32.out.gr hw)) ?_;clear HG0;intro vv33 HG0 HGS ao5 nn5 cc5 RN33
 replace RN29:=lh_ (RN29.out.gr HGS.out)
 replace RN30:=lh_ (RN30.out.gr HGS.out)
 replace RN31:=lh_ (RN31.out.gr HGS.out)
 replace RN32:=lh_ (RN32.out.gr HGS.out)
 clear HGS
 clear lx25;have lx25:=fun w' (h:Gr _ w')=>kc4_ I w' (HG0.out.trans h)
 clear lx26;have lx26:=fun w' (h:Gr _ w')=>kc5_ I w' (HG0.out.trans h)
 refine ce1 Tryz.call150 HG0 (fun w' hw=>qg7 a u6 _ _ _ HZ6.out om (I.out.r 0 rfl (HG0.out.trans hw)) (I.out.r 1 rfl (HG0.out.trans hw))) ?_;clear HG0;intro vv34 HG0 HGS ao6 nn6 cc6 RN34
 replace RN29:=lh_ (RN29.out.gr HGS.out)
 replace RN30:=lh_ (RN30.out.gr HGS.out)
 replace RN31:=lh_ (RN31.out.gr HGS.out)
 replace RN32:=lh_ (RN32.out.gr HGS.out)
 replace RN33:=lh_ (RN33.out.gr HGS.out)
 clear HGS
 clear lx25;have lx25:=fun w' (h:Gr _ w')=>kc4_ I w' (HG0.out.trans h)
 clear lx26;have lx26:=fun w' (h:Gr _ w')=>kc5_ I w' (HG0.out.trans h)
 refine ce1 Tryz.call150 HG0 (fun w' hw=>qg7 b u7 _ _ _ HZ7.out om (I.out.r 2 rfl (HG0.out.trans hw)) (I.out.r 3 rfl (HG0.out.trans hw))) ?_;clear HG0;intro vv35 HG0 HGS ao7 nn7 cc7 RN35
 replace RN29:=lh_ (RN29.out.gr HGS.out)
 replace RN30:=lh_ (RN30.out.gr HGS.out)
 replace RN31:=lh_ (RN31.out.gr HGS.out)
 replace RN32:=lh_ (RN32.out.gr HGS.out)
 replace RN33:=lh_ (RN33.out.gr HGS.out)
 replace RN34:=lh_ (RN34.out.gr HGS.out)
 clear HGS
 clear lx25;have lx25:=fun w' (h:Gr _ w')=>kc4_ I w' (HG0.out.trans h)
 clear lx26;have lx26:=fun w' (h:Gr _ w')=>kc5_ I w' (HG0.out.trans h)
 refine ce1 Tryz.call178 HG0 (fun w' hw=>xt_ _ _ u6 u7 u8 _ HZ8.out (RN34.out.gr hw) (RN35.out.gr hw) om om) ?_;clear HG0;intro vv36 HG0 HGS ao8 nn8 cc8 RN36
 replace RN29:=lh_ (RN29.out.gr HGS.out)
 replace RN30:=lh_ (RN30.out.gr HGS.out)
 replace RN31:=lh_ (RN31.out.gr HGS.out)
 replace RN32:=lh_ (RN32.out.gr HGS.out)
 replace RN33:=lh_ (RN33.out.gr HGS.out)
 replace RN34:=lh_ (RN34.out.gr HGS.out)
 replace RN35:=lh_ (RN35.out.gr HGS.out)
 clear HGS
 clear lx25;have lx25:=fun w' (h:Gr _ w')=>kc4_ I w' (HG0.out.trans h)
 clear lx26;have lx26:=fun w' (h:Gr _ w')=>kc5_ I w' (HG0.out.trans h)
 refine ce2 Tryz.call195 HG0 (fun w' hw=>qj9 u5 u8 z _ _ _ HZ9.out (by simp only [← HZ8.out,← HZ7.out,← HZ6.out,← HZ5.out,← HZ4.out,← HZ3.out,← HZ2.out,← HZ1.out];exact Nat.mul_pos hp_a hp_b) om om (RN33.out.gr hw) (RN36.out.gr hw)) ?_;clear HG0;intro vv37 HG0 HGS ao9 nn9 cc9 ao10 nn10 cc10 RN37 RN38
 replace RN29:=lh_ (RN29.out.gr HGS.out)
 replace RN30:=lh_ (RN30.out.gr HGS.out)
 replace RN31:=lh_ (RN31.out.gr HGS.out)
 replace RN32:=lh_ (RN32.out.gr HGS.out)
 replace RN33:=lh_ (RN33.out.gr HGS.out)
 replace RN34:=lh_ (RN34.out.gr HGS.out)
 replace RN35:=lh_ (RN35.out.gr HGS.out)
 replace RN36:=lh_ (RN36.out.gr HGS.out)
 clear HGS
 clear lx25;have lx25:=fun w' (h:Gr _ w')=>kc4_ I w' (HG0.out.trans h)
 clear lx26;have lx26:=fun w' (h:Gr _ w')=>kc5_ I w' (HG0.out.trans h)
 refine wpPlan_nil (Y.out _ _ ?_)
 intro G vw1 hg hf
 simp only [puts,Act.put,lA,lB,lC,lD,lE,↓reduceIte,Nat.reduceEqDiff]
 have J:=lh_ (((((((((((I.out.gr (HG0.out.trans hg)).ar (RN29.out.gr hg)).ar (RN30.out.gr hg)).ar (RN31.out.gr hg)).ar (RN32.out.gr hg)).ar (RN33.out.gr hg)).ar (RN34.out.gr hg)).ar (RN35.out.gr hg)).ar (RN36.out.gr hg)).ar (RN37.out.gr hg)).ar (RN38.out.gr hg))
 simp only [zq1_,zq2_,zq3_,zq4_,lF,lG] at J
 clear Y T I hg hf HG0 RN29 RN30 RN31 RN32 RN33 RN34 RN35 RN36 RN37 RN38 lx25 lx26
 have lx27:=kc6_ J;have fx27:=kf6_ J
 have r0:=Gr.refl vw1
 go_wp2
 refine kO O ?_;clear O K
 clear r0 lx27 fx27
 refine fH (((((((((((((((((J.out).put2 6 0 rfl).put 6 2 _ rfl).er 14).er 13).er 12).er 11).er 10).er 9).er 8).er 7).er 5).er 4).er 3).er 2).er 1).er 0) fun Wx1 I=>?_
 clear J
 refine wp_ret ?_
 try simp only [Exit.then,Exit.inBlock]
 have lx27:=kc0_ I
 have r0:=Gr.refl Wx1
 exact bR ⟨⟨(.slice ao9 nn9 cc9),(.slice ao10 nn10 cc10),rfl,(I.out.rn 1 rfl),(I.out.rn 2 rfl)⟩,I.out.1⟩ (by simp [results,Tryz.results131,go_sem,lx27 _ r0])
theorem qn2 (a b z:Rat) (va1 va2 vb1 vb2:Value) (w:World) (hz:a*b=z) (hs_a:rz a≤100000000) (hs_b:rz b≤100000000) (bx21:Rn w va1 a.num.natAbs) (bx22:Rn w va2 (a.den - 1)) (bx23:Rn w vb1 b.num.natAbs) (bx24:Rn w vb2 (b.den - 1)) :
  Calls Tryz.prog 135 #[.agg #[.bool (decide (a.num<0)),va1,va2],.agg #[.bool (decide (b.num<0)),vb1,vb2]] w fun e w'=>(∃ r1 r2:Value,e=.returned (.agg #[.bool (decide (z.num<0)),r1,r2])∧Rn w' r1 z.num.natAbs∧Rn w' r2 (z.den - 1))∧Gr w w':=by
 replace hz:=lh_ hz
 have hn_a:=Nat.le_trans (qe1 a) hs_a
 have hd_a:=Nat.le_trans (qc8 a) hs_a
 have he_a:=Nat.le_trans (qc7 (Nat.sub_le a.den 1)) hd_a
 have hp_a:0<a.den:=a.den_pos
 have hn_b:=Nat.le_trans (qe1 b) hs_b
 have hd_b:=Nat.le_trans (qc8 b) hs_b
 have he_b:=Nat.le_trans (qc7 (Nat.sub_le b.den 1)) hd_b
 have hp_b:0<b.den:=b.den_pos
 obtain ⟨ao_va1,n_va1,c_va1,rfl⟩:=Rn.sl bx21
 obtain ⟨ao_va2,n_va2,c_va2,rfl⟩:=Rn.sl bx22
 obtain ⟨ao_vb1,n_vb1,c_vb1,rfl⟩:=Rn.sl bx23
 obtain ⟨ao_vb2,n_vb2,c_vb2,rfl⟩:=Rn.sl bx24
 go_enter Tryz.func135,Tryz.ntmps135
 have I:=lh_ (hp0 w)
 replace I:=lh_ ((((I.out.ar bx21).ar bx22).ar bx23).ar bx24)
 simp only [lF,lG] at I
 clear bx21 bx22 bx23 bx24
 refine kSl fun K O=>?_;go_wp2
 refine kF_ O (al3_ I) fun Wx0 J=>?_;clear O K
 clear I;have I:=J;clear J
 generalize w.heap.size+1+1=gx27 at *
 generalize w.heap.size+1=gx26 at *
 obtain ⟨u1,HZ1⟩:=ex_ ((a.num)*(b.num))
 have su1:tw (Int.natAbs u1)≤200000000:=by rw [← HZ1.out];have:=qF4 (a.num) (b.num);omega
 obtain ⟨u2,HZ2⟩:=ex_ (a.den)
 have su2:tw u2≤100000000:=by rw [← HZ2.out];have:=qc8 a;omega
 obtain ⟨u3,HZ3⟩:=ex_ (b.den)
 have su3:tw u3≤100000000:=by rw [← HZ3.out];have:=qc8 b;omega
 obtain ⟨u4,HZ4⟩:=ex_ (u2*(u3))
 have su4:tw u4≤200000000:=by rw [← HZ4.out];have:=qj1 u2 u3;omega
 have HZ5:Hid (mkRat u1 u4=z):=lh_ (by simp only [← HZ4.out,← HZ3.out,← HZ2.out,← HZ1.out];rw [← hz.out];exact (Rat.mul_def' a b).symm)
 have lx25:=kc4_ I
 have lx26:=kc5_ I
 refine kS fun K O=>?_
 have HG0:Hid (Gr Wx0 Wx0):=lh_ (Gr.refl _)
 refine xD4 fun T Y=>?_
 iterate 6 refine tk ?_
 refine ce1 Tryz.call214 HG0 (fun w' hw=>qy8 (a.num) (b.num) u1 _ _ _ HZ1.out om om (I.out.r 0 rfl (HG0.out.trans hw)) (I.out.r 2 rfl (HG0.out.trans hw))) ?_;clear HG0;intro vv29 HG0 _ ao1 nn1 cc1 RN29
 clear lx25;have lx25:=fun w' (h:Gr _ w')=>kc4_ I w' (HG0.out.trans h)
 clear lx26;have lx26:=fun w' (h:Gr _ w')=>kc5_ I w' (HG0.out.trans h)
 refine ce1 Tryz.call150 HG0 (fun w' hw=>qg7 a u2 _ _ _ HZ2.out om (I.out.r 0 rfl (HG0.out.trans hw)) (I.out.r 1 rfl (HG0.out.trans hw))) ?_;clear HG0;intro vv30 HG0 HGS ao2 nn2 cc2 RN30
 replace RN29:=lh_ (RN29.out.gr HGS.out)
 clear HGS
 clear lx25;have lx25:=fun w' (h:Gr _ w')=>kc4_ I w' (HG0.out.trans h)
 clear lx26;have lx26:=fun w' (h:Gr _ w')=>kc5_ I w' (HG0.out.trans h)
 refine ce1 Tryz.call150 HG0 (fun w' hw=>qg7 b u3 _ _ _ HZ3.out om (I.out.r 2 rfl (HG0.out.trans hw)) (I.out.r 3 rfl (HG0.out.trans hw))) ?_;clear HG0;intro vv31 HG0 HGS ao3 nn3 cc3 RN31
 replace RN29:=lh_ (RN29.out.gr HGS.out)
 replace RN30:=lh_ (RN30.out.gr HGS.out)
 clear HGS
 clear lx25;have lx25:=fun w' (h:Gr _ w')=>kc4_ I w' (HG0.out.trans h)
 clear lx26;have lx26:=fun w' (h:Gr _ w')=>kc5_ I w' (HG0.out.trans h)
 refine ce1 Tryz.call178 HG0 (fun w' hw=>xt_ _ _ u2 u3 u4 _ HZ4.out (RN30.out.gr hw) (RN31.out.gr hw) om om) ?_;clear HG0;intro vv32 HG0 HGS ao4 nn4 cc4 RN32
 replace RN29:=lh_ (RN29.out.gr HGS.out)
 replace RN30:=lh_ (RN30.out.gr HGS.out)
 replace RN31:=lh_ (RN31.out.gr HGS.out)
 clear HGS
 clear lx25;have lx25:=fun w' (h:Gr _ w')=>kc4_ I w' (HG0.out.trans h)
 clear lx26;have lx26:=fun w' (h:Gr _ w')=>kc5_ I w' (HG0.out.trans h)
 refine ce2 Tryz.call195 HG0 (fun w' hw=>qj9 u1 u4 z _ _ _ HZ5.out (by simp only [← HZ4.out,← HZ3.out,← HZ2.out,← HZ1.out];exact Nat.mul_pos hp_a hp_b) om om (RN29.out.gr hw) (RN32.out.gr hw)) ?_;clear HG0;intro vv33 HG0 HGS ao5 nn5 cc5 ao6 nn6 cc6 RN33 RN34
 replace RN29:=lh_ (RN29.out.gr HGS.out)
 replace RN30:=lh_ (RN30.out.gr HGS.out)
 replace RN31:=lh_ (RN31.out.gr HGS.out)
 replace RN32:=lh_ (RN32.out.gr HGS.out)
 clear HGS
 clear lx25;have lx25:=fun w' (h:Gr _ w')=>kc4_ I w' (HG0.out.trans h)
 clear lx26;have lx26:=fun w' (h:Gr _ w')=>kc5_ I w' (HG0.out.trans h)
 refine wpPlan_nil (Y.out _ _ ?_)
 intro G vw1 hg hf
 simp only [puts,Act.put,lA,lB,lC,lD,lE,↓reduceIte,Nat.reduceEqDiff]
 have J:=lh_ (((((((I.out.gr (HG0.out.trans hg)).ar (RN29.out.gr hg)).ar (RN30.out.gr hg)).ar (RN31.out.gr hg)).ar (RN32.out.gr hg)).ar (RN33.out.gr hg)).ar (RN34.out.gr hg))
 simp only [zq1_,zq2_,zq3_,zq4_,lF,lG] at J
 clear Y T I hg hf HG0 RN29 RN30 RN31 RN32 RN33 RN34 lx25 lx26
 have lx27:=kc6_ J;have fx27:=kf6_ J
 have r0:=Gr.refl vw1
 go_wp2
 refine kO O ?_;clear O K
 clear r0 lx27 fx27
 refine fH (((((((((((((J.out).put2 6 0 rfl).put 6 2 _ rfl).er 10).er 9).er 8).er 7).er 5).er 4).er 3).er 2).er 1).er 0) fun Wx1 I=>?_
 clear J
 refine wp_ret ?_
 try simp only [Exit.then,Exit.inBlock]
 have lx27:=kc0_ I
 have r0:=Gr.refl Wx1
 exact bR ⟨⟨(.slice ao5 nn5 cc5),(.slice ao6 nn6 cc6),rfl,(I.out.rn 1 rfl),(I.out.rn 2 rfl)⟩,I.out.1⟩ (by simp [results,Tryz.results135,go_sem,lx27 _ r0])
theorem qn3 (a b z:Rat) (va1 va2 vb1 vb2:Value) (w:World) (hz:a - b=z) (hs_a:rz a≤40000000) (hs_b:rz b≤40000000) (bx21:Rn w va1 a.num.natAbs) (bx22:Rn w va2 (a.den - 1)) (bx23:Rn w vb1 b.num.natAbs) (bx24:Rn w vb2 (b.den - 1)) :
  Calls Tryz.prog 133 #[.agg #[.bool (decide (a.num<0)),va1,va2],.agg #[.bool (decide (b.num<0)),vb1,vb2]] w fun e w'=>(∃ r1 r2:Value,e=.returned (.agg #[.bool (decide (z.num<0)),r1,r2])∧Rn w' r1 z.num.natAbs∧Rn w' r2 (z.den - 1))∧Gr w w':=by
 replace hz:=lh_ hz
 have hn_a:=Nat.le_trans (qe1 a) hs_a
 have hd_a:=Nat.le_trans (qc8 a) hs_a
 have he_a:=Nat.le_trans (qc7 (Nat.sub_le a.den 1)) hd_a
 have hp_a:0<a.den:=a.den_pos
 have hn_b:=Nat.le_trans (qe1 b) hs_b
 have hd_b:=Nat.le_trans (qc8 b) hs_b
 have he_b:=Nat.le_trans (qc7 (Nat.sub_le b.den 1)) hd_b
 have hp_b:0<b.den:=b.den_pos
 obtain ⟨ao_va1,n_va1,c_va1,rfl⟩:=Rn.sl bx21
 obtain ⟨ao_va2,n_va2,c_va2,rfl⟩:=Rn.sl bx22
 obtain ⟨ao_vb1,n_vb1,c_vb1,rfl⟩:=Rn.sl bx23
 obtain ⟨ao_vb2,n_vb2,c_vb2,rfl⟩:=Rn.sl bx24
 go_enter Tryz.func133,Tryz.ntmps133
 have I:=lh_ (hp0 w)
 replace I:=lh_ ((((I.out.ar bx21).ar bx22).ar bx23).ar bx24)
 simp only [lF,lG] at I
 clear bx21 bx22 bx23 bx24
 refine kSl fun K O=>?_;go_wp2
 refine kF_ O (al3_ I) fun Wx0 J=>?_;clear O K
 clear I;have I:=J;clear J
 generalize w.heap.size+1+1=gx27 at *
 generalize w.heap.size+1=gx26 at *
 obtain ⟨u1,HZ1⟩:=ex_ (-(b))
 have su1:rz u1≤40000000:=by rw [← HZ1.out];rw [qu1];omega
 have HZ2:Hid (a+(u1)=z):=lh_ (by rw [← HZ1.out,← hz.out,Rat.sub_eq_add_neg])
 have lx25:=kc4_ I
 have lx26:=kc5_ I
 refine kS fun K O=>?_
 have HG0:Hid (Gr Wx0 Wx0):=lh_ (Gr.refl _)
 refine xp4 fun T Y=>?_
 refine tk2_ ?_
 refine ce2 Tryz.call136 HG0 (fun w' hw=>qk6 b u1 _ _ _ HZ1.out (I.out.r 2 rfl (HG0.out.trans hw)) (I.out.r 3 rfl (HG0.out.trans hw))) ?_;clear HG0;intro vv29 HG0 _ ao1 nn1 cc1 ao2 nn2 cc2 RN29 RN30
 clear lx25;have lx25:=fun w' (h:Gr _ w')=>kc4_ I w' (HG0.out.trans h)
 clear lx26;have lx26:=fun w' (h:Gr _ w')=>kc5_ I w' (HG0.out.trans h)
 refine ce2 Tryz.call131 HG0 (fun w' hw=>qn1 a u1 z _ _ _ _ _ HZ2.out om om (I.out.r 0 rfl (HG0.out.trans hw)) (I.out.r 1 rfl (HG0.out.trans hw)) (RN29.out.gr hw) (RN30.out.gr hw)) ?_;clear HG0;intro vv31 HG0 HGS ao3 nn3 cc3 ao4 nn4 cc4 RN31 RN32
 replace RN29:=lh_ (RN29.out.gr HGS.out)
 replace RN30:=lh_ (RN30.out.gr HGS.out)
 clear HGS
 clear lx25;have lx25:=fun w' (h:Gr _ w')=>kc4_ I w' (HG0.out.trans h)
 clear lx26;have lx26:=fun w' (h:Gr _ w')=>kc5_ I w' (HG0.out.trans h)
 refine wpPlan_nil (Y.out _ _ ?_)
 intro G vw1 hg hf
 simp only [puts,Act.put,lA,lB,lC,lD,lE,↓reduceIte,Nat.reduceEqDiff]
 have J:=lh_ (((((I.out.gr (HG0.out.trans hg)).ar (RN29.out.gr hg)).ar (RN30.out.gr hg)).ar (RN31.out.gr hg)).ar (RN32.out.gr hg))
 simp only [zq1_,zq2_,zq3_,zq4_,lF,lG] at J
 clear Y T I hg hf HG0 RN29 RN30 RN31 RN32 lx25 lx26
 have lx27:=kc6_ J;have fx27:=kf6_ J
 have r0:=Gr.refl vw1
 go_wp2
 refine kO O ?_;clear O K
 clear r0 lx27 fx27
 refine fH (((((((((((J.out).put2 6 0 rfl).put 6 2 _ rfl).er 8).er 7).er 5).er 4).er 3).er 2).er 1).er 0) fun Wx1 I=>?_
 clear J
 refine wp_ret ?_
 try simp only [Exit.then,Exit.inBlock]
 have lx27:=kc0_ I
 have r0:=Gr.refl Wx1
 exact bR ⟨⟨(.slice ao3 nn3 cc3),(.slice ao4 nn4 cc4),rfl,(I.out.rn 1 rfl),(I.out.rn 2 rfl)⟩,I.out.1⟩ (by simp [results,Tryz.results133,go_sem,lx27 _ r0])
end
section
open Go.RowKit
attribute [local go_sem ↓] Go.wp_at_zero Go.wp_at_succ
theorem xo7 (b:Rat) (h:b.num≠0):mkRat (if decide (b.num<0) then -((b.den:Nat):Int) else ((b.den:Nat):Int)) b.num.natAbs=b⁻¹:=by
 rw [Rat.inv_def]
 by_cases h2:b.num<0
 ·rw [if_pos (by simpa using h2),← Rat.divInt_ofNat,show ((b.num.natAbs:Nat):Int) = -b.num by omega,Rat.neg_divInt_neg]
 rw [if_neg (by simpa using h2),← Rat.divInt_ofNat,show ((b.num.natAbs:Nat):Int)=b.num by omega]
theorem qW3 (a b:Rat) (t:Int) (va1 va2 vb1 vb2:Value) (w:World) (ht:Hid (sgQ b=t)) (h0:(t == 0)=true) (bx21:Rn w va1 a.num.natAbs) (bx22:Rn w va2 (a.den - 1)) (bx23:Rn w vb1 b.num.natAbs) (bx24:Rn w vb2 (b.den - 1)) :
  CB 89 #[.agg #[.bool (decide (a.num<0)),va1,va2],.agg #[.bool (decide (b.num<0)),vb1,vb2]] w (.agg #[.bool false,.slice none 0 0,.slice none 0 0]):=by
 obtain ⟨ao_va1,n_va1,c_va1,rfl⟩:=Rn.sl bx21
 obtain ⟨ao_va2,n_va2,c_va2,rfl⟩:=Rn.sl bx22
 obtain ⟨ao_vb1,n_vb1,c_vb1,rfl⟩:=Rn.sl bx23
 obtain ⟨ao_vb2,n_vb2,c_vb2,rfl⟩:=Rn.sl bx24
 go_enter Tryz.func89,Tryz.ntmps89
 have I:=lh_ (hp0 w)
 replace I:=lh_ ((((I.out.ar bx21).ar bx22).ar bx23).ar bx24)
 simp only [lF,lG] at I
 clear bx21 bx22 bx23 bx24
 refine kSl fun K O=>?_;go_wp2
 refine kF_ O (al3_ I) fun Wx0 J=>?_;clear O K
 clear I;have I:=J;clear J
 generalize w.heap.size+1+1=gx27 at *
 generalize w.heap.size+1=gx26 at *
 refine wp_seq ?_
 have lx26:=kc5_ I
 refine ks3_ fun K O T Y=>?_
 refine tk ?_
 refine ck Tryz.call88 (fun w' hw=>qd5 b t _ _ _ (ht.out) (I.out.r 2 rfl hw) (I.out.r 3 rfl hw)) ?_
 refine tk ?_
 refine nz Y I O ?_;clear Y T I lx26 O K;intro vw1 I
 refine wp_cond_true (by rfl) ?_
 refine ks1_ fun K O T Y=>?_
 refine tk ?_
 refine nlS Y I fun vw2 J=>?_
 clear Y T I
 have lx27:=kc6_ J;have fx27:=kf6_ J
 have r0:=Gr.refl vw2
 go_wp2
 refine kO O ?_;clear O K
 clear r0 lx27 fx27
 refine fH (((J.out).put2 6 0 rfl).put 6 2 _ rfl) fun Wx2 I=>?_
 clear J
 refine wp_ret ?_
 try simp only [Exit.then,Exit.inBlock]
 have lx27:=kc6_ I
 have r0:=Gr.refl Wx2
 exact bR ⟨rfl,I.out.1⟩ (by simp [results,Tryz.results89,go_sem,lx27 _ r0])
theorem xp8 (a b z:Rat) (t:Int) (va1 va2 vb1 vb2:Value) (w:World) (hz:a / b=z) (ht:Hid (sgQ b=t)) (h0:(t == 0)=false) (hb:Hid (b.num≠0)) (hs_a:rz a≤40000000) (hs_b:rz b≤40000000) (bx21:Rn w va1 a.num.natAbs) (bx22:Rn w va2 (a.den - 1)) (bx23:Rn w vb1 b.num.natAbs) (bx24:Rn w vb2 (b.den - 1)) :
  Calls Tryz.prog 89 #[.agg #[.bool (decide (a.num<0)),va1,va2],.agg #[.bool (decide (b.num<0)),vb1,vb2]] w fun e w'=>(∃ r1 r2:Value,e=.returned (.agg #[.bool (decide (z.num<0)),r1,r2])∧Rn w' r1 z.num.natAbs∧Rn w' r2 (z.den - 1))∧Gr w w':=by
 replace hz:=lh_ hz
 have hn_a:=Nat.le_trans (qe1 a) hs_a
 have hd_a:=Nat.le_trans (qc8 a) hs_a
 have he_a:=Nat.le_trans (qc7 (Nat.sub_le a.den 1)) hd_a
 have hp_a:0<a.den:=a.den_pos
 have hn_b:=Nat.le_trans (qe1 b) hs_b
 have hd_b:=Nat.le_trans (qc8 b) hs_b
 have he_b:=Nat.le_trans (qc7 (Nat.sub_le b.den 1)) hd_b
 have hp_b:0<b.den:=b.den_pos
 have hiv:=Nat.le_trans (xk9 b) hs_b
 obtain ⟨ao_va1,n_va1,c_va1,rfl⟩:=Rn.sl bx21
 obtain ⟨ao_va2,n_va2,c_va2,rfl⟩:=Rn.sl bx22
 obtain ⟨ao_vb1,n_vb1,c_vb1,rfl⟩:=Rn.sl bx23
 obtain ⟨ao_vb2,n_vb2,c_vb2,rfl⟩:=Rn.sl bx24
 go_enter Tryz.func89,Tryz.ntmps89
 have I:=lh_ (hp0 w)
 replace I:=lh_ ((((I.out.ar bx21).ar bx22).ar bx23).ar bx24)
 simp only [lF,lG] at I
 clear bx21 bx22 bx23 bx24
 refine kSl fun K O=>?_;go_wp2
 refine kF_ O (al3_ I) fun Wx0 J=>?_;clear O K
 clear I;have I:=J;clear J
 generalize w.heap.size+1+1=gx27 at *
 generalize w.heap.size+1=gx26 at *
 refine wp_seq ?_
 have lx26:=kc5_ I
 refine ks3_ fun K O T Y=>?_
 refine tk ?_
 refine ck Tryz.call88 (fun w' hw=>qd5 b t _ _ _ (ht.out) (I.out.r 2 rfl hw) (I.out.r 3 rfl hw)) ?_
 refine tk ?_
 refine nz Y I O ?_;clear Y T I lx26 O K;intro vw1 I
 refine wp_cond_false (by rfl) ?_
 refine wp_skip ?_
 show Code.wp _ _ _ _ _
 obtain ⟨u1,HZ1⟩:=ex_ (b.den)
 have su1:tw u1≤40000000:=by rw [← HZ1.out];have:=qc8 b;omega
 obtain ⟨u2,HZ2⟩:=ex_ ((if decide ((b.num)<0) then -((u1:Nat):Int) else ((u1:Nat):Int)))
 have su2:tw (Int.natAbs u2)≤40000000:=by rw [← HZ2.out];split <;> simp <;> omega
 have HZ3:Hid (mkRat u2 b.num.natAbs=b⁻¹):=lh_ (by simp only [← HZ2.out,← HZ1.out];exact xo7 b hb.out)
 have HZ4:Hid (a*(b⁻¹)=z):=lh_ (by rw [← hz.out,Rat.div_def])
 have lx25:=kc4_ I
 have lx26:=kc5_ I
 refine kS fun K O=>?_
 have HG0:Hid (Gr vw1 vw1):=lh_ (Gr.refl _)
 refine xD5 fun T Y=>?_
 iterate 8 refine tk ?_
 refine ce1 Tryz.call150 HG0 (fun w' hw=>qg7 b u1 _ _ _ HZ1.out om (I.out.r 2 rfl (HG0.out.trans hw)) (I.out.r 3 rfl (HG0.out.trans hw))) ?_;clear HG0;intro vv29 HG0 _ ao1 nn1 cc1 RN29
 clear lx25;have lx25:=fun w' (h:Gr _ w')=>kc4_ I w' (HG0.out.trans h)
 clear lx26;have lx26:=fun w' (h:Gr _ w')=>kc5_ I w' (HG0.out.trans h)
 refine ce1 Tryz.call196 HG0 (fun w' hw=>qa8 (decide ((b.num)<0)) u1 u2 _ _ HZ2.out (RN29.out.gr hw)) ?_;clear HG0;intro vv30 HG0 HGS ao2 nn2 cc2 RN30
 replace RN29:=lh_ (RN29.out.gr HGS.out)
 clear HGS
 clear lx25;have lx25:=fun w' (h:Gr _ w')=>kc4_ I w' (HG0.out.trans h)
 clear lx26;have lx26:=fun w' (h:Gr _ w')=>kc5_ I w' (HG0.out.trans h)
 refine ce2 Tryz.call195 HG0 (fun w' hw=>qj9 u2 b.num.natAbs (b⁻¹) _ _ _ HZ3.out (by have:=hb.out;omega) om om (RN30.out.gr hw) (I.out.r 2 rfl (HG0.out.trans hw))) ?_;clear HG0;intro vv31 HG0 HGS ao3 nn3 cc3 ao4 nn4 cc4 RN31 RN32
 replace RN29:=lh_ (RN29.out.gr HGS.out)
 replace RN30:=lh_ (RN30.out.gr HGS.out)
 clear HGS
 clear lx25;have lx25:=fun w' (h:Gr _ w')=>kc4_ I w' (HG0.out.trans h)
 clear lx26;have lx26:=fun w' (h:Gr _ w')=>kc5_ I w' (HG0.out.trans h)
 refine ce2 Tryz.call135 HG0 (fun w' hw=>qn2 a (b⁻¹) z _ _ _ _ _ HZ4.out om om (I.out.r 0 rfl (HG0.out.trans hw)) (I.out.r 1 rfl (HG0.out.trans hw)) (RN31.out.gr hw) (RN32.out.gr hw)) ?_;clear HG0;intro vv33 HG0 HGS ao5 nn5 cc5 ao6 nn6 cc6 RN33 RN34
 replace RN29:=lh_ (RN29.out.gr HGS.out)
 replace RN30:=lh_ (RN30.out.gr HGS.out)
 replace RN31:=lh_ (RN31.out.gr HGS.out)
 replace RN32:=lh_ (RN32.out.gr HGS.out)
 clear HGS
 clear lx25;have lx25:=fun w' (h:Gr _ w')=>kc4_ I w' (HG0.out.trans h)
 clear lx26;have lx26:=fun w' (h:Gr _ w')=>kc5_ I w' (HG0.out.trans h)
 refine wpPlan_nil (Y.out _ _ ?_)
 intro G vw2 hg hf
 simp only [puts,Act.put,lA,lB,lC,lD,lE,↓reduceIte,Nat.reduceEqDiff]
 have J:=lh_ (((((((I.out.gr (HG0.out.trans hg)).ar (RN29.out.gr hg)).ar (RN30.out.gr hg)).ar (RN31.out.gr hg)).ar (RN32.out.gr hg)).ar (RN33.out.gr hg)).ar (RN34.out.gr hg))
 simp only [zq1_,zq2_,zq3_,zq4_,lF,lG] at J
 clear Y T I hg hf HG0 RN29 RN30 RN31 RN32 RN33 RN34 lx25 lx26
 have lx27:=kc6_ J;have fx27:=kf6_ J
 have r0:=Gr.refl vw2
 go_wp2
 refine kO O ?_;clear O K
 clear r0 lx27 fx27
 refine fH (((((((((((((J.out).put2 6 0 rfl).put 6 2 _ rfl).er 10).er 9).er 8).er 7).er 5).er 4).er 3).er 2).er 1).er 0) fun Wx3 I=>?_
 clear J
 refine wp_ret ?_
 try simp only [Exit.then,Exit.inBlock]
 have lx27:=kc0_ I
 have r0:=Gr.refl Wx3
 exact bR ⟨⟨(.slice ao5 nn5 cc5),(.slice ao6 nn6 cc6),rfl,(I.out.rn 1 rfl),(I.out.rn 2 rfl)⟩,I.out.1⟩ (by simp [results,Tryz.results89,go_sem,lx27 _ r0])
theorem qs5 (a b z:Rat) (va1 va2 vb1 vb2:Value) (w:World) (hz:a / b=z) (hs_a:rz a≤40000000) (hs_b:rz b≤40000000) (bx21:Rn w va1 a.num.natAbs) (bx22:Rn w va2 (a.den - 1)) (bx23:Rn w vb1 b.num.natAbs) (bx24:Rn w vb2 (b.den - 1)) :
  Calls Tryz.prog 89 #[.agg #[.bool (decide (a.num<0)),va1,va2],.agg #[.bool (decide (b.num<0)),vb1,vb2]] w fun e w'=>(∃ r1 r2:Value,e=.returned (.agg #[.bool (decide (z.num<0)),r1,r2])∧Rn w' r1 z.num.natAbs∧Rn w' r2 (z.den - 1))∧Gr w w':=by
 cases h:(sgQ b == 0)
 ·have hb:b.num≠0:=fun e=>by
   have:sgQ b=0:=by rw [qu3,if_pos e]
   rw [this] at h
   exact absurd h (by decide)
  exact xp8 a b z _ va1 va2 vb1 vb2 w hz (lh_ rfl) h (lh_ hb) hs_a hs_b bx21 bx22 bx23 bx24
 have hb:b=0:=by
  have h2:sgQ b=0:=beq_iff_eq.1 h
  rw [qu3] at h2
  split at h2
  ·exact num_zero.1 (by assumption)
  split at h2 <;> simp at h2
 have hz0:z=0:=by rw [← hz,hb,Rat.div_def,Rat.inv_zero,Rat.mul_zero]
 subst hz0
 refine (qW3 a b _ va1 va2 vb1 vb2 w (lh_ rfl) h bx21 bx22 bx23 bx24).mono ?_
 rintro e w' ⟨rfl,hb'⟩
 exact ⟨⟨_,_,rfl,Rn.zero _,Rn.zero _⟩,hb'⟩
theorem qs4 (a b:Rat) (t:Int) (va1 va2 vb1 vb2:Value) (w:World) (ht:sgQ (a - b)=t) (hs_a:rz a≤10000000) (hs_b:rz b≤10000000) (bx21:Rn w va1 a.num.natAbs) (bx22:Rn w va2 (a.den - 1)) (bx23:Rn w vb1 b.num.natAbs) (bx24:Rn w vb2 (b.den - 1)) :
  CB 129 #[.agg #[.bool (decide (a.num<0)),va1,va2],.agg #[.bool (decide (b.num<0)),vb1,vb2]] w (.int .i64 t):=by
 replace ht:=lh_ ht
 obtain ⟨ao_va1,n_va1,c_va1,rfl⟩:=Rn.sl bx21
 obtain ⟨ao_va2,n_va2,c_va2,rfl⟩:=Rn.sl bx22
 obtain ⟨ao_vb1,n_vb1,c_vb1,rfl⟩:=Rn.sl bx23
 obtain ⟨ao_vb2,n_vb2,c_vb2,rfl⟩:=Rn.sl bx24
 go_enter Tryz.func129,Tryz.ntmps129
 have I:=lh_ (hp0 w)
 replace I:=lh_ ((((I.out.ar bx21).ar bx22).ar bx23).ar bx24)
 simp only [lF,lG] at I
 clear bx21 bx22 bx23 bx24
 refine kSl fun K O=>?_;go_wp2
 refine kF_ O (al2_ I) fun Wx0 J=>?_;clear O K
 clear I;have I:=J;clear J
 generalize w.heap.size+1=gx26 at *
 obtain ⟨u1,HZ1⟩:=ex_ (a - b)
 have su1:rz u1≤20000001:=by rw [← HZ1.out];have:=qA_ a b;omega
 have lx25:=kc4_ I
 have lx26:=kc5_ I
 refine kS fun K O=>?_
 have HG0:Hid (Gr Wx0 Wx0):=lh_ (Gr.refl _)
 refine qu6 fun T Y=>?_
 refine tk2_ ?_
 refine ce2 Tryz.call133 HG0 (fun w' hw=>qn3 a b u1 _ _ _ _ _ HZ1.out om om (I.out.r 0 rfl (HG0.out.trans hw)) (I.out.r 1 rfl (HG0.out.trans hw)) (I.out.r 2 rfl (HG0.out.trans hw)) (I.out.r 3 rfl (HG0.out.trans hw))) ?_;clear HG0;intro vv28 HG0 _ ao1 nn1 cc1 ao2 nn2 cc2 RN28 RN29
 clear lx25;have lx25:=fun w' (h:Gr _ w')=>kc4_ I w' (HG0.out.trans h)
 clear lx26;have lx26:=fun w' (h:Gr _ w')=>kc5_ I w' (HG0.out.trans h)
 refine ck Tryz.call88 (fun w' hw=>qd5 u1 t _ _ _ (by rw [← HZ1.out];exact ht.out) (RN28.out.gr hw) (RN29.out.gr hw)) ?_
 refine tk ?_
 refine nzR Y O (fun w2 hg=>((((((((((I.out.gr (HG0.out.trans hg)).ar (RN28.out.gr hg)).ar (RN29.out.gr hg)).er 7).er 6).er 5).er 4).er 3).er 2).er 1).er 0) ?_;clear Y T I HG0 RN28 RN29 lx25 lx26 O K;intro Wx1 I
 refine wp_ret ?_
 try simp only [Exit.then,Exit.inBlock]
 exact bR ⟨rfl,I.out.1⟩ (by simp [results,Tryz.results129,go_sem])
end
end Go.Proofs.YtobojnodohjiaaaGreatDoor
