
/- gussetref04.Whole. -/
import Derived.Test.YtobojnodohjiaaaGreatDoorPN
set_option maxRecDepth 100000
set_option maxHeartbeats 16000000
set_option linter.unusedVariables false
set_option linter.unusedSimpArgs false
namespace Go.Proofs.YtobojnodohjiaaaGreatDoor
open Go.RowKit
attribute [local go_sem ↓] Go.wp_at_zero Go.wp_at_succ
attribute [local go_sem ↓] eq_nat eq_nat_zero eq_int
theorem xo9 {x:Rat} {w:Int} (h:x - ((x.floor:Int):Rat)=0):rnd w x=x.floor:=by
 have e:((x.floor:Int):Rat)=x:=by grind
 have:=qJ5 w x.floor
 rw [e] at this;exact this
theorem qX8 {x:Rat} (h:¬ x - ((x.floor:Int):Rat)=0):x.ceil=x.floor+1:=qj9 (fun e=>h (by grind))
theorem xz6 {x:Rat} (h:x - ((x.floor:Int):Rat) - (1 / 2:Rat)<0):rnd 3 x=x.floor:=by rw [rnd3,if_pos (.inl (by grind))]
theorem xz5 {x:Rat} (h:0<x - ((x.floor:Int):Rat) - (1 / 2:Rat)):rnd 3 x=x.ceil:=by rw [rnd3,if_neg (by rintro (e|⟨e,_⟩) <;> grind)]
theorem xz4 {x:Rat} (h:x - ((x.floor:Int):Rat) - (1 / 2:Rat)=0) (h2:x.floor % 2=0):rnd 3 x=x.floor:=by rw [rnd3,if_pos (.inr ⟨by grind,h2⟩)]
theorem xz7 {x:Rat} (h:x - ((x.floor:Int):Rat) - (1 / 2:Rat)=0) (h2:¬ x.floor % 2=0):rnd 3 x=x.ceil:=by rw [rnd3,if_neg (by rintro (e|⟨_,e⟩);grind;exact h2 e)]
theorem xA3 (a:Rat) (n way c z0:Int) (va1 va2:Value) (w:World) (HZ0:Hid ((0:Int)=z0)) (hz0:tw (Int.natAbs z0)≤1) (HC:Hid (qh5 n way=c)) (hc0:¬ c=0) (bx21:Rn w va1 a.num.natAbs) (bx22:Rn w va2 (a.den - 1)) :
  Calls Tryz.prog 246 #[.agg #[.bool (decide (a.num<0)),va1,va2],.int .i64 n,.int .i64 way] w fun e w'=>(∃ r1:Value,e=.returned (.tuple #[(.agg #[.bool (z0<0),r1]),.int .i64 c])∧Rn w' r1 z0.natAbs)∧Gr w w':=by
 obtain ⟨ao_va1,n_va1,c_va1,rfl⟩:=Rn.sl bx21
 obtain ⟨ao_va2,n_va2,c_va2,rfl⟩:=Rn.sl bx22
 go_enter Tryz.func246,Tryz.ntmps246
 have I:=lh_ (hp0 w)
 replace I:=lh_ ((I.out.ar bx21).ar bx22)
 simp only [lF,lG] at I
 clear bx21 bx22
 refine kSl fun K O=>?_;go_wp2
 refine kF_ O (al2_ I) fun Wx0 J=>?_;clear O K
 clear I;have I:=J;clear J
 generalize w.heap.size+1=gx24 at *
 have HZ1:Hid ((0:Int)=z0):=lh_ (HZ0.out)
 have su1:tw z0.natAbs≤1:=by have e:=HZ1.out;first|omega|(rw [← e];exact qc0.2 (by decide +kernel))
 refine kS fun K O=>?_
 have HG0:Hid (Gr Wx0 Wx0):=lh_ (Gr.refl _)
 refine qC7 fun T Y=>?_
 refine ce1 Tryz.call211 HG0 (fun w' hw=>qi4 (0) z0 _ HZ1.out (by decide) (by decide)) ?_;clear HG0;intro vv26 HG0 _ ao1 nn1 cc1 RN26
 refine qa0 (Y.out _ _ ?_)
 intro vw1 hg
 simp only [puts,Act.put,lA,lB,lC,lD,lE,↓reduceIte,Nat.reduceEqDiff]
 have J:=lh_ ((I.out.gr (HG0.out.trans hg)).ar (RN26.out.gr hg))
 simp only [zq1_,zq2_,zq3_,zq4_,lF,lG] at J
 clear Y T I hg HG0 RN26
 go_wp2
 refine kF_ O ((J.out).aL (vw1.heap.size)) fun Wx1 I=>?_;clear O K
 clear J
 generalize vw1.heap.size=gx27 at *
 refine wp_seq ?_
 by_cases c1:n<0
 ·have HB9:=lh_ c1
  obtain rfl:c=1:=by rw [← HC.out];exact by unfold qh5;rw [if_pos HB9.out]
  clear c1
  have hb9:n<0:=HB9.out
  refine ks2_ fun K O T Y=>?_
  refine tk2_ ?_
  refine nz Y I O ?_;clear Y T I O K;intro vw2 I
  clear hb9
  refine wp_cond_true (by rfl) ?_
  have lx27:=kc5_ I
  refine ks1_ fun K O T Y=>?_
  refine tk ?_
  refine nlS Y I fun vw3 J=>?_
  clear Y T I lx27
  have lx24:=kc3_ J;have fx24:=kf3_ J
  have r0:=Gr.refl vw3
  go_wp2
  refine kO O ?_;clear O K
  clear r0 lx24 fx24
  refine fH ((J.out).put2 3 0 rfl) fun Wx3 I=>?_
  clear J
  refine wp_ret ?_
  try simp only [Exit.then,Exit.inBlock]
  have lx24:=kc3_ I
  have r0:=Gr.refl Wx3
  exact bR ⟨⟨(.slice ao1 nn1 cc1),rfl,(I.out.rn 4 rfl)⟩,I.out.1⟩ qy4
 have HN0:=lh_ c1
 clear c1
 have hb8:¬ n<0:=HN0.out
 refine ks2_ fun K O T Y=>?_
 refine tk2_ ?_
 refine nz Y I O ?_;clear Y T I O K;intro vw2 I
 clear hb8
 refine wp_cond_false (by rfl) ?_
 refine wp_skip ?_
 show Code.wp _ _ _ _ _
 refine wp_seq ?_
 by_cases c1:100<n
 ·have HB9:=lh_ c1
  obtain rfl:c=3:=by rw [← HC.out];exact by unfold qh5;rw [if_neg (show ¬ n<0 by have h9:=HN0.out;omega),if_pos HB9.out]
  clear c1
  have hb9:100<n:=HB9.out
  refine ks2_ fun K O T Y=>?_
  refine tk2_ ?_
  refine nz Y I O ?_;clear Y T I O K;intro vw3 I
  clear hb9
  refine wp_cond_true (by rfl) ?_
  have lx27:=kc5_ I
  refine ks1_ fun K O T Y=>?_
  refine tk ?_
  refine nlS Y I fun vw4 J=>?_
  clear Y T I lx27
  have lx24:=kc3_ J;have fx24:=kf3_ J
  have r0:=Gr.refl vw4
  go_wp2
  refine kO O ?_;clear O K
  clear r0 lx24 fx24
  refine fH ((J.out).put2 3 0 rfl) fun Wx5 I=>?_
  clear J
  refine wp_ret ?_
  try simp only [Exit.then,Exit.inBlock]
  have lx24:=kc3_ I
  have r0:=Gr.refl Wx5
  exact bR ⟨⟨(.slice ao1 nn1 cc1),rfl,(I.out.rn 4 rfl)⟩,I.out.1⟩ qy4
 have HN1:=lh_ c1
 clear c1
 have hb7:¬ 100<n:=HN1.out
 refine ks2_ fun K O T Y=>?_
 refine tk2_ ?_
 refine nz Y I O ?_;clear Y T I O K;intro vw3 I
 clear hb7
 refine wp_cond_false (by rfl) ?_
 refine wp_skip ?_
 show Code.wp _ _ _ _ _
 refine wp_seq ?_
 by_cases c1:way<1
 ·have HB9:=lh_ c1
  obtain rfl:c=1:=by rw [← HC.out];exact by unfold qh5;rw [if_neg (show ¬ n<0 by have h9:=HN0.out;omega),if_neg (show ¬ 100<n by have h9:=HN1.out;omega),if_pos (.inl HB9.out)]
  clear c1
  have hb9:way<1:=HB9.out
  refine ks6_ fun K O T Y=>?_
  refine tk3_ ?_
  iterate 2 refine sk ?_
  refine tk ?_
  refine nz Y I O ?_;clear Y T I O K;intro vw4 I
  clear hb9
  refine wp_cond_true (by rfl) ?_
  have lx27:=kc5_ I
  refine ks1_ fun K O T Y=>?_
  refine tk ?_
  refine nlS Y I fun vw5 J=>?_
  clear Y T I lx27
  have lx24:=kc3_ J;have fx24:=kf3_ J
  have r0:=Gr.refl vw5
  go_wp2
  refine kO O ?_;clear O K
  clear r0 lx24 fx24
  refine fH (((J.out).put2 3 0 rfl).er 5) fun Wx7 I=>?_
  clear J
  refine wp_ret ?_
  try simp only [Exit.then,Exit.inBlock]
  have lx24:=kc3_ I
  have r0:=Gr.refl Wx7
  exact bR ⟨⟨(.slice ao1 nn1 cc1),rfl,(I.out.rn 4 rfl)⟩,I.out.1⟩ qy4
 have HN2:=lh_ c1
 clear c1
 obtain rfl:c=1:=by
  have h1:=HC.out
  unfold qh5 at h1
  rw [if_neg (show ¬ n<0 by have h9:=HN0.out;omega),if_neg (show ¬ 100<n by have h9:=HN1.out;omega)] at h1
  by_cases h2:way<1∨3<way
  ·rw [if_pos h2] at h1;exact h1.symm
  rw [if_neg h2] at h1;exact absurd h1.symm hc0
 have hb6:¬ way<1:=HN2.out
 have hb5:3<way:=by have h1:=HC.out;have h2:=HN0.out;have h3:=HN1.out;have h4:=HN2.out;unfold qh5 at h1;rw [if_neg (show ¬ n<0 by omega),if_neg (show ¬ 100<n by omega)] at h1;rcases Int.lt_or_le 3 way with h|h;exact h;rw [if_neg om] at h1;omega
 refine ks6_ fun K O T Y=>?_
 iterate 6 refine tk ?_
 refine nz Y I O ?_;clear Y T I O K;intro vw4 I
 clear hb6 hb5
 refine wp_cond_true (by rfl) ?_
 have lx27:=kc5_ I
 refine ks1_ fun K O T Y=>?_
 refine tk ?_
 refine nlS Y I fun vw5 J=>?_
 clear Y T I lx27
 have lx24:=kc3_ J;have fx24:=kf3_ J
 have r0:=Gr.refl vw5
 go_wp2
 refine kO O ?_;clear O K
 clear r0 lx24 fx24
 refine fH (((J.out).put2 3 0 rfl).er 5) fun Wx7 I=>?_
 clear J
 refine wp_ret ?_
 try simp only [Exit.then,Exit.inBlock]
 have lx24:=kc3_ I
 have r0:=Gr.refl Wx7
 exact bR ⟨⟨(.slice ao1 nn1 cc1),rfl,(I.out.rn 4 rfl)⟩,I.out.1⟩ qy4
theorem xA2 (a x r:Rat) (k:Nat) (way f c z d:Int) (va1 va2:Value) (w:World) (HX:Hid (a*(10:Rat) ^ k=x)) (HFL:Hid (x.floor=f)) (HR:Hid (x - ((f:Int):Rat)=r)) (HCE:Hid (f+1=c)) (HD:Hid (f % 2=d)) (HZ:Hid (rnd way x=z)) (hw1:1≤way) (hw2:way≤3) (hk:k≤100) (hs:rz a≤1000) (hsx:rz x≤1100) (hsf:tw f.natAbs≤1101) (hszf:rz ((f:Int):Rat)≤1102) (bx21:Rn w va1 a.num.natAbs) (bx22:Rn w va2 (a.den - 1)) :
  Calls Tryz.prog 246 #[.agg #[.bool (decide (a.num<0)),va1,va2],.int .i64 (((k:Nat):Int)),.int .i64 way] w fun e w'=>(∃ r1:Value,e=.returned (.tuple #[(.agg #[.bool (z<0),r1]),.int .i64 0])∧Rn w' r1 z.natAbs)∧Gr w w':=by
 obtain ⟨ao_va1,n_va1,c_va1,rfl⟩:=Rn.sl bx21
 obtain ⟨ao_va2,n_va2,c_va2,rfl⟩:=Rn.sl bx22
 go_enter Tryz.func246,Tryz.ntmps246
 have I:=lh_ (hp0 w)
 replace I:=lh_ ((I.out.ar bx21).ar bx22)
 simp only [lF,lG] at I
 clear bx21 bx22
 refine kSl fun K O=>?_;go_wp2
 refine kF_ O (al2_ I) fun Wx0 J=>?_;clear O K
 clear I;have I:=J;clear J
 generalize w.heap.size+1=gx24 at *
 have HZ1:Hid ((0:Int)=0):=lh_ (by decide +kernel)
 have su1:tw (Int.natAbs (0))≤1:=qc0.2 (by decide +kernel)
 refine kS fun K O=>?_
 have HG0:Hid (Gr Wx0 Wx0):=lh_ (Gr.refl _)
 refine qC7 fun T Y=>?_
 refine ce1 Tryz.call211 HG0 (fun w' hw=>qi4 (0) (0) _ HZ1.out (by decide) (by decide)) ?_;clear HG0;intro vv26 HG0 _ ao1 nn1 cc1 RN26
 refine qa0 (Y.out _ _ ?_)
 intro vw1 hg
 simp only [puts,Act.put,lA,lB,lC,lD,lE,↓reduceIte,Nat.reduceEqDiff]
 have J:=lh_ ((I.out.gr (HG0.out.trans hg)).ar (RN26.out.gr hg))
 simp only [zq1_,zq2_,zq3_,zq4_,lF,lG] at J
 clear Y T I hg HG0 RN26
 go_wp2
 refine kF_ O ((J.out).aL (vw1.heap.size)) fun Wx1 I=>?_;clear O K
 clear J
 generalize vw1.heap.size=gx27 at *
 refine wp_seq ?_
 have hd1:¬ ((((k:Nat):Int))<0):=ok
 have hd2:¬ (k<0):=by have e:=hd1;omega
 refine ks2_ fun K O T Y=>?_
 refine tk2_ ?_
 refine nz Y I O ?_;clear Y T I O K;intro vw2 I
 clear hd1 hd2
 refine wp_cond_false (by rfl) ?_
 refine wp_skip ?_
 show Code.wp _ _ _ _ _
 refine wp_seq ?_
 have hd3:¬ (100<(((k:Nat):Int))):=ok
 refine ks2_ fun K O T Y=>?_
 refine tk2_ ?_
 refine nz Y I O ?_;clear Y T I O K;intro vw3 I
 clear hd3
 refine wp_cond_false (by rfl) ?_
 refine wp_skip ?_
 show Code.wp _ _ _ _ _
 refine wp_seq ?_
 have hd4:¬ (way<1):=ok
 have hd5:¬ (3<way):=ok
 refine ks6_ fun K O T Y=>?_
 iterate 6 refine tk ?_
 refine nz Y I O ?_;clear Y T I O K;intro vw4 I
 clear hd4 hd5
 refine wp_cond_false (by rfl) ?_
 refine wp_skip ?_
 show Code.wp _ _ _ _ _
 have HZ2:Hid (a*(10:Rat) ^ k=x):=lh_ (HX.out)
 have su2:rz x≤1100:=by have e:=HZ2.out;first|omega|(rw [← e];have e1:=qn4 a ((10:Rat) ^ k);have e2:=qx2 (k:=k) om;omega)
 have lx23:=kc2_ I
 refine kS fun K O=>?_
 have HG0:Hid (Gr vw4 vw4):=lh_ (Gr.refl _)
 refine xA8 fun T Y=>?_
 refine tk2_ ?_
 refine ce2 Tryz.call247 HG0 (fun w' hw=>qG0 a x k _ _ _ (lh_ HZ2.out) om om (I.out.r 0 rfl (HG0.out.trans hw)) (I.out.r 1 rfl (HG0.out.trans hw))) ?_;clear HG0;intro vv28 HG0 _ ao2 nn2 cc2 ao3 nn3 cc3 RN28 RN29
 clear lx23;have lx23:=fun w' (h:Gr _ w')=>kc2_ I w' (HG0.out.trans h)
 refine qa0 (Y.out _ _ ?_)
 intro vw5 hg
 simp only [puts,Act.put,lA,lB,lC,lD,lE,↓reduceIte,Nat.reduceEqDiff]
 have J:=lh_ (((I.out.gr (HG0.out.trans hg)).ar (RN28.out.gr hg)).ar (RN29.out.gr hg))
 simp only [zq1_,zq2_,zq3_,zq4_,lF,lG] at J
 clear Y T I hg HG0 RN28 RN29 lx23
 go_wp2
 refine kF_ O (((((((J.out).aL (vw5.heap.size)).er 5).er 4).er 2).er 1).er 0) fun Wx8 I=>?_;clear O K
 clear J
 generalize vw5.heap.size=gx30 at *
 have HZ3:Hid (x.floor=f):=lh_ (HFL.out)
 have su3:tw f.natAbs≤1101:=by have e:=HZ3.out;first|omega|(rw [← e];have:=qv2 x;omega)
 have lx30:=kc3_ I
 refine kS fun K O=>?_
 have HG0:Hid (Gr Wx8 Wx8):=lh_ (Gr.refl _)
 refine qK0 fun T Y=>?_
 refine tk ?_
 refine ce1 Tryz.call144 HG0 (fun w' hw=>qU0 x f _ _ _ (lh_ HZ3.out) om (I.out.r 1 rfl (HG0.out.trans hw)) (I.out.r 2 rfl (HG0.out.trans hw))) ?_;clear HG0;intro vv31 HG0 _ ao4 nn4 cc4 RN31
 clear lx30;have lx30:=fun w' (h:Gr _ w')=>kc3_ I w' (HG0.out.trans h)
 refine qa0 (Y.out _ _ ?_)
 intro vw6 hg
 simp only [puts,Act.put,lA,lB,lC,lD,lE,↓reduceIte,Nat.reduceEqDiff]
 have J:=lh_ ((I.out.gr (HG0.out.trans hg)).ar (RN31.out.gr hg))
 simp only [zq1_,zq2_,zq3_,zq4_,lF,lG] at J
 clear Y T I hg HG0 RN31 lx30
 go_wp2
 refine kF_ O ((J.out).aL (vw6.heap.size)) fun Wx9 I=>?_;clear O K
 clear J
 generalize vw6.heap.size=gx32 at *
 have HZ4:Hid (x - (((f:Int):Rat))=r):=lh_ (HR.out)
 have su4:rz r≤2203:=by have e:=HZ4.out;first|omega|(rw [← e];have:=xs_ x (((f:Int):Rat));omega)
 have lx30:=kc3_ I
 have lx32:=kc5_ I
 refine kS fun K O=>?_
 have HG0:Hid (Gr Wx9 Wx9):=lh_ (Gr.refl _)
 refine xA_ fun T Y=>?_
 refine tk3_ ?_
 refine ce2 Tryz.call133 HG0 (fun w' hw=>qO8 x (((f:Int):Rat)) r _ _ _ _ _ HZ4.out om om (I.out.r 1 rfl (HG0.out.trans hw)) (I.out.r 2 rfl (HG0.out.trans hw)) (I.out.r 4 rfl (HG0.out.trans hw)) (Rn.zero _)) ?_;clear HG0;intro vv33 HG0 _ ao5 nn5 cc5 ao6 nn6 cc6 RN33 RN34
 clear lx30;have lx30:=fun w' (h:Gr _ w')=>kc3_ I w' (HG0.out.trans h)
 clear lx32;have lx32:=fun w' (h:Gr _ w')=>kc5_ I w' (HG0.out.trans h)
 refine qa0 (Y.out _ _ ?_)
 intro vw7 hg
 simp only [puts,Act.put,lA,lB,lC,lD,lE,↓reduceIte,Nat.reduceEqDiff]
 have J:=lh_ (((I.out.gr (HG0.out.trans hg)).ar (RN33.out.gr hg)).ar (RN34.out.gr hg))
 simp only [zq1_,zq2_,zq3_,zq4_,lF,lG] at J
 clear Y T I hg HG0 RN33 RN34 lx30 lx32
 go_wp2
 refine kF_ O (((((J.out).aL (vw7.heap.size)).er 3).er 2).er 1) fun Wx10 I=>?_;clear O K
 clear J
 generalize vw7.heap.size=gx35 at *
 refine wp_seq ?_
 by_cases h0:r=0
 ·have HR0:=lh_ h0
  obtain rfl:f=z:=by rw [← HZ.out,xo9 (by rw [HFL.out,HR.out];exact h0),HFL.out]
  clear h0
  have lx35:=kc5_ I
  refine ks7_ fun K O T Y=>?_
  refine tk ?_
  refine ck Tryz.call88 (fun w' hw=>qe_ r (0) _ _ _ (by have e9:(r)=(0:Rat):=(by exact HR0.out);exact qg6 e9) (I.out.r 3 rfl hw) (I.out.r 4 rfl hw)) ?_
  refine tk2_ ?_
  iterate 2 refine sk ?_
  refine tk ?_
  refine nz Y I O ?_;clear Y T I lx35 O K;intro vw8 I
  refine wp_cond_true (by rfl) ?_
  have lx32:=kc2_ I
  refine ks1_ fun K O T Y=>?_
  refine tk ?_
  refine nlS Y I fun vw9 J=>?_
  clear Y T I lx32
  have lx24:=kc0_ J;have fx24:=kf0_ J
  have r0:=Gr.refl vw9
  go_wp2
  refine kO O ?_;clear O K
  clear r0 lx24 fx24
  refine fH ((J.out).put2 0 0 rfl) fun Wx12 I=>?_
  clear J
  refine wp_ret ?_
  try simp only [Exit.then,Exit.inBlock]
  have lx24:=kc0_ I
  have r0:=Gr.refl Wx12
  exact bR ⟨⟨(.slice ao4 nn4 cc4),rfl,(I.out.rn 1 rfl)⟩,I.out.1⟩ qy4
 have HR0:Hid (0<r):=lh_ (by have h9:=xk8 x;rw [HFL.out] at h9;have h8:=HR.out;grind)
 have HCL:Hid (x.ceil=c):=lh_ (by rw [qX8 (by rw [HFL.out,HR.out];exact h0),HFL.out];exact HCE.out)
 clear h0
 by_cases h1:way=1
 ·have HW1:=lh_ h1
  obtain rfl:f=z:=by rw [← HZ.out,h1,rnd1,HFL.out]
  clear h1
  have hw1e:(way == 1)=true:=by have h9:=HW1.out;simp [h9]
  have lx35:=kc5_ I
  refine ks7_ fun K O T Y=>?_
  refine tk ?_
  refine ck Tryz.call88 (fun w' hw=>qe_ r (1) _ _ _ (by have e9:(0:Rat)<(r):=(by exact HR0.out);exact qs1 e9) (I.out.r 3 rfl hw) (I.out.r 4 rfl hw)) ?_
  iterate 5 refine tk ?_
  refine nz Y I O ?_;clear Y T I lx35 O K;intro vw8 I
  clear hw1e
  refine wp_cond_true (by rfl) ?_
  have lx32:=kc2_ I
  refine ks1_ fun K O T Y=>?_
  refine tk ?_
  refine nlS Y I fun vw9 J=>?_
  clear Y T I lx32
  have lx24:=kc0_ J;have fx24:=kf0_ J
  have r0:=Gr.refl vw9
  go_wp2
  refine kO O ?_;clear O K
  clear r0 lx24 fx24
  refine fH ((J.out).put2 0 0 rfl) fun Wx12 I=>?_
  clear J
  refine wp_ret ?_
  try simp only [Exit.then,Exit.inBlock]
  have lx24:=kc0_ I
  have r0:=Gr.refl Wx12
  exact bR ⟨⟨(.slice ao4 nn4 cc4),rfl,(I.out.rn 1 rfl)⟩,I.out.1⟩ qy4
 have HW1:=lh_ h1
 clear h1
 have hw1e:(way == 1)=false:=by simpa using HW1.out
 have lx35:=kc5_ I
 refine ks7_ fun K O T Y=>?_
 refine tk ?_
 refine ck Tryz.call88 (fun w' hw=>qe_ r (1) _ _ _ (by have e9:(0:Rat)<(r):=(by exact HR0.out);exact qs1 e9) (I.out.r 3 rfl hw) (I.out.r 4 rfl hw)) ?_
 iterate 5 refine tk ?_
 refine nz Y I O ?_;clear Y T I lx35 O K;intro vw8 I
 clear hw1e
 refine wp_cond_false (by rfl) ?_
 refine wp_skip ?_
 show Code.wp _ _ _ _ _
 have HZ5:Hid ((1:Int)=1):=lh_ (by decide +kernel)
 have su5:tw (Int.natAbs (1))≤1:=qc0.2 (by decide +kernel)
 have HZ6:Hid (f+(1)=c):=lh_ (HCE.out)
 have su6:tw c.natAbs≤1102:=by have e:=HZ6.out;first|omega|(rw [← e];have:=qo6 f (1);omega)
 have lx32:=kc2_ I
 refine kS fun K O=>?_
 have HG0:Hid (Gr vw8 vw8):=lh_ (Gr.refl _)
 refine qa1 4 [3] [] (fun _=>12) (fun _=>.cells #[.bool false,.slice none 0 0] 45) [(true,0),(false,1),(false,2)] (by kernel_rfl) (by kernel_rfl) zb0_ (fun i hi=>by cases hi) (fun _ _ _ _ _ h=>h) (fun T Y=>?_)
 refine tk ?_
 refine ce1 Tryz.call211 HG0 (fun w' hw=>qi4 (1) (1) _ HZ5.out (by decide) (by decide)) ?_;clear HG0;intro vv36 HG0 _ ao7 nn7 cc7 RN36
 clear lx32;have lx32:=fun w' (h:Gr _ w')=>kc2_ I w' (HG0.out.trans h)
 refine ce1 Tryz.call210 HG0 (fun w' hw=>qn1 f (1) c _ _ _ HZ6.out om om (I.out.r 1 rfl (HG0.out.trans hw)) (RN36.out.gr hw)) ?_;clear HG0;intro vv37 HG0 HGS ao8 nn8 cc8 RN37
 replace RN36:=lh_ (RN36.out.gr HGS.out)
 clear HGS
 clear lx32;have lx32:=fun w' (h:Gr _ w')=>kc2_ I w' (HG0.out.trans h)
 refine qa0 (Y.out _ _ ?_)
 intro G vw9 hg hf
 simp only [puts,Act.put,lA,lB,lC,lD,lE,↓reduceIte,Nat.reduceEqDiff]
 have J:=lh_ (((I.out.fr (HG0.out.trans hg) hf (zs:=[(#[.bool false,.slice none 0 0],45)]) rfl (by decide) (by decide)).ar (RN36.out.gr hg)).ar (RN37.out.gr hg))
 simp only [zq1_,zq2_,zq3_,zq4_,lF,lG] at J
 clear Y T I hg hf HG0 RN36 RN37 lx32
 generalize G 3=gx38 at *
 have lx38:=kc6_ J;have fx38:=kf6_ J
 have r0:=Gr.refl vw9
 go_wp2
 refine kO O ?_;clear O K
 clear r0 lx38 fx38
 refine fH (((J.out).put2 6 0 rfl).er 7) fun Wx13 I=>?_
 clear J
 refine wp_seq ?_
 by_cases h2:way=2
 ·have HW2:=lh_ h2
  obtain rfl:c=z:=by rw [← HZ.out,h2,rnd2];exact HCL.out.symm
  clear h2
  have hw2e:(way == 2)=true:=by have h9:=HW2.out;simp [h9]
  refine ks2_ fun K O T Y=>?_
  refine tk2_ ?_
  refine nz Y I O ?_;clear Y T I O K;intro vw10 I
  clear hw2e
  refine wp_cond_true (by rfl) ?_
  have lx38:=kc6_ I
  refine ks1_ fun K O T Y=>?_
  refine tk ?_
  refine nlS Y I fun vw11 J=>?_
  clear Y T I lx38
  have lx24:=kc0_ J;have fx24:=kf0_ J
  have r0:=Gr.refl vw11
  go_wp2
  refine kO O ?_;clear O K
  clear r0 lx24 fx24
  refine fH ((J.out).put2 0 0 rfl) fun Wx15 I=>?_
  clear J
  refine wp_ret ?_
  try simp only [Exit.then,Exit.inBlock]
  have lx24:=kc0_ I
  have r0:=Gr.refl Wx15
  exact bR ⟨⟨(.slice ao8 nn8 cc8),rfl,(I.out.rn 7 rfl)⟩,I.out.1⟩ qy4
 have HW2:=lh_ h2
 have HW3:Hid (rnd 3 x=z):=lh_ (by rw [← HZ.out,show way=3 by have:=HW1.out;omega])
 clear h2
 have hw2e:(way == 2)=false:=by simpa using HW2.out
 refine ks2_ fun K O T Y=>?_
 refine tk2_ ?_
 refine nz Y I O ?_;clear Y T I O K;intro vw10 I
 clear hw2e
 refine wp_cond_false (by rfl) ?_
 refine wp_skip ?_
 show Code.wp _ _ _ _ _
 rcases (show r - (1 / 2:Rat)<0∨r - (1 / 2:Rat)=0∨0<r - (1 / 2:Rat) by grind) with h3|h3|h3
 ·have HO:=lh_ h3
  obtain rfl:f=z:=by rw [← HW3.out,xz6 (by rw [HFL.out,HR.out];exact HO.out),HFL.out]
  clear h3
  have HZ7:Hid (((1:Int):Rat) / ((2:Int):Rat)=(1 / 2:Rat)):=lh_ (by decide +kernel)
  have su7:rz ((1 / 2:Rat))≤10:=by have e:=HZ7.out;first|omega|(rw [← e];exact qs0 (1) (2) om om om om)
  have lx35:=kc5_ I
  refine kS fun K O=>?_
  have HG0:Hid (Gr vw10 vw10):=lh_ (Gr.refl _)
  refine xn3 fun T Y=>?_
  refine tk ?_
  refine ce2 Tryz.call180 HG0 (fun w' hw=>qw9 (1) (2) ((1 / 2:Rat)) _ HZ7.out om om om om) ?_;clear HG0;intro vv39 HG0 _ ao9 nn9 cc9 ao10 nn10 cc10 RN39 RN40
  clear lx35;have lx35:=fun w' (h:Gr _ w')=>kc5_ I w' (HG0.out.trans h)
  refine ck Tryz.call129 (fun w' hw=>qu3 r ((1 / 2:Rat)) (-1) _ _ _ _ _ (by have e9:(r) - ((1 / 2:Rat))<(0:Rat):=(by exact HO.out);exact ql2 e9) om om (I.out.r 3 rfl (HG0.out.trans hw)) (I.out.r 4 rfl (HG0.out.trans hw)) (RN39.out.gr hw) (RN40.out.gr hw)) ?_
  refine qa0 (Y.out _ _ ?_)
  intro G vw11 hg hf
  simp only [puts,Act.put,lA,lB,lC,lD,lE,↓reduceIte,Nat.reduceEqDiff]
  have J:=lh_ (((I.out.gr (HG0.out.trans hg)).ar (RN39.out.gr hg)).ar (RN40.out.gr hg))
  simp only [zq1_,zq2_,zq3_,zq4_,lF,lG] at J
  clear Y T I hg hf HG0 RN39 RN40 lx35
  go_wp2
  refine kF_ O ((((((J.out).er 9).er 8).er 5).er 4).er 3) fun Wx16 I=>?_;clear O K
  clear J
  have HZ8:Hid ((2:Int)=2):=lh_ (by decide +kernel)
  have su8:tw (Int.natAbs (2))≤1:=qc0.2 (by decide +kernel)
  obtain ⟨u9,HZ9⟩:=ex_ (f / (2))
  have su9:tw u9.natAbs≤1102:=by rw [← HZ9.out];have:=qs4 f (2);omega
  have HZ10:Hid (f % (2)=d):=lh_ (HD.out)
  have su10:tw d.natAbs≤1101:=by have e:=HZ10.out;first|omega|(rw [← e];have:=qx9 f (2) qH3;omega)
  have lx32:=kc2_ I
  refine kS fun K O=>?_
  have HG0:Hid (Gr Wx16 Wx16):=lh_ (Gr.refl _)
  refine qa1 8 [6,7] [5] (fun i=>if i=6 then 14 else 15) (fun i=>if i=6 then .cells #[.bool false,.slice none 0 0] 45 else .cells #[.bool false,.slice none 0 0] 45) [(true,0),(false,1),(false,2),(true,3),(true,4),(true,5)] (by kernel_rfl) (by kernel_rfl) zb1_ zb3_ (fun _ _ _ _ _ h=>h) (fun T Y=>?_)
  refine tk ?_
  refine ce1 Tryz.call211 HG0 (fun w' hw=>qi4 (2) (2) _ HZ8.out (by decide) (by decide)) ?_;clear HG0;intro vv41 HG0 _ ao11 nn11 cc11 RN41
  clear lx32;have lx32:=fun w' (h:Gr _ w')=>kc2_ I w' (HG0.out.trans h)
  refine ce2 Tryz.call218 HG0 (fun w' hw=>xi0 f (2) u9 d _ _ _ HZ9.out HZ10.out qH3 om om (I.out.r 1 rfl (HG0.out.trans hw)) (RN41.out.gr hw)) ?_;clear HG0;intro vv42 HG0 HGS ao12 nn12 cc12 ao13 nn13 cc13 RN42 RN43
  replace RN41:=lh_ (RN41.out.gr HGS.out)
  clear HGS
  clear lx32;have lx32:=fun w' (h:Gr _ w')=>kc2_ I w' (HG0.out.trans h)
  refine tk3_ ?_
  refine qa0 (Y.out _ _ ?_)
  intro G vw12 hg hf
  simp only [puts,Act.put,lA,lB,lC,lD,lE,↓reduceIte,Nat.reduceEqDiff]
  have J:=lh_ ((((I.out.fr (HG0.out.trans hg) hf (zs:=[(#[.bool false,.slice none 0 0],45),(#[.bool false,.slice none 0 0],45)]) rfl (by decide) (by decide)).ar (RN41.out.gr hg)).ar (RN42.out.gr hg)).ar (RN43.out.gr hg))
  simp only [zq1_,zq2_,zq3_,zq4_,lF,lG] at J
  clear Y T I hg hf HG0 RN41 RN42 RN43 lx32
  generalize G 6=gx44 at *
  generalize G 7=gx45 at *
  have lx44:=kc5_ J;have fx44:=kf5_ J
  have lx45:=kc6_ J;have fx45:=kf6_ J
  have r0:=Gr.refl vw12
  obtain ⟨d44_45,d45_44⟩:=J.out.ne 5 6 rfl rfl (by decide)
  go_wp2
  refine kO O ?_;clear O K
  clear r0 lx44 fx44 lx45 fx45 d44_45 d45_44
  refine fH ((((((J.out).put2 5 0 rfl).put2 6 0 rfl).er 8).er 7).er 5) fun Wx17 I=>?_
  clear J
  refine wp_seq ?_
  have lx45:=kc5_ I
  refine qh4 fun K O T Y=>?_
  refine tk3_ ?_
  iterate 7 refine sk ?_
  refine tk ?_
  refine nzR Y O (fun w2 hg=>((I.out.gr hg).er 6).er 5) ?_;clear Y T I lx45 O K;intro Wx18 I
  refine wp_cond_true (by rfl) ?_
  have lx32:=kc2_ I
  refine ks1_ fun K O T Y=>?_
  refine tk ?_
  refine nlS Y I fun vw14 J=>?_
  clear Y T I lx32
  have lx24:=kc0_ J;have fx24:=kf0_ J
  have r0:=Gr.refl vw14
  go_wp2
  refine kO O ?_;clear O K
  clear r0 lx24 fx24
  refine fH (((J.out).put2 0 0 rfl).er 2) fun Wx19 I=>?_
  clear J
  refine wp_ret ?_
  try simp only [Exit.then,Exit.inBlock]
  have lx24:=kc0_ I
  have r0:=Gr.refl Wx19
  exact bR ⟨⟨(.slice ao4 nn4 cc4),rfl,(I.out.rn 1 rfl)⟩,I.out.1⟩ qy4
 ·have HO:=lh_ h3
  clear h3
  by_cases h4:d=0
  ·have HDV:=lh_ h4
   obtain rfl:f=z:=by rw [← HW3.out,xz4 (by rw [HFL.out,HR.out];exact HO.out) (by rw [HFL.out,HD.out];exact h4),HFL.out]
   clear h4
   have HZ7:Hid (((1:Int):Rat) / ((2:Int):Rat)=(1 / 2:Rat)):=lh_ (by decide +kernel)
   have su7:rz ((1 / 2:Rat))≤10:=by have e:=HZ7.out;first|omega|(rw [← e];exact qs0 (1) (2) om om om om)
   have lx35:=kc5_ I
   refine kS fun K O=>?_
   have HG0:Hid (Gr vw10 vw10):=lh_ (Gr.refl _)
   refine xn3 fun T Y=>?_
   refine tk ?_
   refine ce2 Tryz.call180 HG0 (fun w' hw=>qw9 (1) (2) ((1 / 2:Rat)) _ HZ7.out om om om om) ?_;clear HG0;intro vv39 HG0 _ ao9 nn9 cc9 ao10 nn10 cc10 RN39 RN40
   clear lx35;have lx35:=fun w' (h:Gr _ w')=>kc5_ I w' (HG0.out.trans h)
   refine ck Tryz.call129 (fun w' hw=>qu3 r ((1 / 2:Rat)) (0) _ _ _ _ _ (by have e9:(r) - ((1 / 2:Rat))=(0:Rat):=(by exact HO.out);exact qg6 e9) om om (I.out.r 3 rfl (HG0.out.trans hw)) (I.out.r 4 rfl (HG0.out.trans hw)) (RN39.out.gr hw) (RN40.out.gr hw)) ?_
   refine qa0 (Y.out _ _ ?_)
   intro G vw11 hg hf
   simp only [puts,Act.put,lA,lB,lC,lD,lE,↓reduceIte,Nat.reduceEqDiff]
   have J:=lh_ (((I.out.gr (HG0.out.trans hg)).ar (RN39.out.gr hg)).ar (RN40.out.gr hg))
   simp only [zq1_,zq2_,zq3_,zq4_,lF,lG] at J
   clear Y T I hg hf HG0 RN39 RN40 lx35
   go_wp2
   refine kF_ O ((((((J.out).er 9).er 8).er 5).er 4).er 3) fun Wx16 I=>?_;clear O K
   clear J
   have HZ8:Hid ((2:Int)=2):=lh_ (by decide +kernel)
   have su8:tw (Int.natAbs (2))≤1:=qc0.2 (by decide +kernel)
   obtain ⟨u9,HZ9⟩:=ex_ (f / (2))
   have su9:tw u9.natAbs≤1102:=by rw [← HZ9.out];have:=qs4 f (2);omega
   have HZ10:Hid (f % (2)=d):=lh_ (HD.out)
   have su10:tw d.natAbs≤1101:=by have e:=HZ10.out;first|omega|(rw [← e];have:=qx9 f (2) qH3;omega)
   have lx32:=kc2_ I
   refine kS fun K O=>?_
   have HG0:Hid (Gr Wx16 Wx16):=lh_ (Gr.refl _)
   refine qa1 8 [6,7] [5] (fun i=>if i=6 then 14 else 15) (fun i=>if i=6 then .cells #[.bool false,.slice none 0 0] 45 else .cells #[.bool false,.slice none 0 0] 45) [(true,0),(false,1),(false,2),(true,3),(true,4),(true,5)] (by kernel_rfl) (by kernel_rfl) zb1_ zb3_ (fun _ _ _ _ _ h=>h) (fun T Y=>?_)
   refine tk ?_
   refine ce1 Tryz.call211 HG0 (fun w' hw=>qi4 (2) (2) _ HZ8.out (by decide) (by decide)) ?_;clear HG0;intro vv41 HG0 _ ao11 nn11 cc11 RN41
   clear lx32;have lx32:=fun w' (h:Gr _ w')=>kc2_ I w' (HG0.out.trans h)
   refine ce2 Tryz.call218 HG0 (fun w' hw=>xi0 f (2) u9 d _ _ _ HZ9.out HZ10.out qH3 om om (I.out.r 1 rfl (HG0.out.trans hw)) (RN41.out.gr hw)) ?_;clear HG0;intro vv42 HG0 HGS ao12 nn12 cc12 ao13 nn13 cc13 RN42 RN43
   replace RN41:=lh_ (RN41.out.gr HGS.out)
   clear HGS
   clear lx32;have lx32:=fun w' (h:Gr _ w')=>kc2_ I w' (HG0.out.trans h)
   refine tk3_ ?_
   refine qa0 (Y.out _ _ ?_)
   intro G vw12 hg hf
   simp only [puts,Act.put,lA,lB,lC,lD,lE,↓reduceIte,Nat.reduceEqDiff]
   have J:=lh_ ((((I.out.fr (HG0.out.trans hg) hf (zs:=[(#[.bool false,.slice none 0 0],45),(#[.bool false,.slice none 0 0],45)]) rfl (by decide) (by decide)).ar (RN41.out.gr hg)).ar (RN42.out.gr hg)).ar (RN43.out.gr hg))
   simp only [zq1_,zq2_,zq3_,zq4_,lF,lG] at J
   clear Y T I hg hf HG0 RN41 RN42 RN43 lx32
   generalize G 6=gx44 at *
   generalize G 7=gx45 at *
   have lx44:=kc5_ J;have fx44:=kf5_ J
   have lx45:=kc6_ J;have fx45:=kf6_ J
   have r0:=Gr.refl vw12
   obtain ⟨d44_45,d45_44⟩:=J.out.ne 5 6 rfl rfl (by decide)
   go_wp2
   refine kO O ?_;clear O K
   clear r0 lx44 fx44 lx45 fx45 d44_45 d45_44
   refine fH ((((((J.out).put2 5 0 rfl).put2 6 0 rfl).er 8).er 7).er 5) fun Wx17 I=>?_
   clear J
   refine wp_seq ?_
   have lx45:=kc5_ I
   refine qh4 fun K O T Y=>?_
   iterate 7 refine tk ?_
   refine ck Tryz.call194 (fun w' hw=>qi5 d (0) _ _ (by have e9:(d)=(0:Int):=(by exact HDV.out);exact xt0 e9) (I.out.r 6 rfl hw)) ?_
   refine tk3_ ?_
   refine nzR Y O (fun w2 hg=>((I.out.gr hg).er 6).er 5) ?_;clear Y T I lx45 O K;intro Wx18 I
   refine wp_cond_true (by rfl) ?_
   have lx32:=kc2_ I
   refine ks1_ fun K O T Y=>?_
   refine tk ?_
   refine nlS Y I fun vw14 J=>?_
   clear Y T I lx32
   have lx24:=kc0_ J;have fx24:=kf0_ J
   have r0:=Gr.refl vw14
   go_wp2
   refine kO O ?_;clear O K
   clear r0 lx24 fx24
   refine fH (((J.out).put2 0 0 rfl).er 2) fun Wx19 I=>?_
   clear J
   refine wp_ret ?_
   try simp only [Exit.then,Exit.inBlock]
   have lx24:=kc0_ I
   have r0:=Gr.refl Wx19
   exact bR ⟨⟨(.slice ao4 nn4 cc4),rfl,(I.out.rn 1 rfl)⟩,I.out.1⟩ qy4
  have HDV:Hid (0<d):=lh_ (by have:=HD.out;omega)
  obtain rfl:c=z:=by rw [← HW3.out,xz7 (by rw [HFL.out,HR.out];exact HO.out) (by rw [HFL.out,HD.out];exact h4)];exact HCL.out.symm
  clear h4
  have HZ7:Hid (((1:Int):Rat) / ((2:Int):Rat)=(1 / 2:Rat)):=lh_ (by decide +kernel)
  have su7:rz ((1 / 2:Rat))≤10:=by have e:=HZ7.out;first|omega|(rw [← e];exact qs0 (1) (2) om om om om)
  have lx35:=kc5_ I
  refine kS fun K O=>?_
  have HG0:Hid (Gr vw10 vw10):=lh_ (Gr.refl _)
  refine xn3 fun T Y=>?_
  refine tk ?_
  refine ce2 Tryz.call180 HG0 (fun w' hw=>qw9 (1) (2) ((1 / 2:Rat)) _ HZ7.out om om om om) ?_;clear HG0;intro vv39 HG0 _ ao9 nn9 cc9 ao10 nn10 cc10 RN39 RN40
  clear lx35;have lx35:=fun w' (h:Gr _ w')=>kc5_ I w' (HG0.out.trans h)
  refine ck Tryz.call129 (fun w' hw=>qu3 r ((1 / 2:Rat)) (0) _ _ _ _ _ (by have e9:(r) - ((1 / 2:Rat))=(0:Rat):=(by exact HO.out);exact qg6 e9) om om (I.out.r 3 rfl (HG0.out.trans hw)) (I.out.r 4 rfl (HG0.out.trans hw)) (RN39.out.gr hw) (RN40.out.gr hw)) ?_
  refine qa0 (Y.out _ _ ?_)
  intro G vw11 hg hf
  simp only [puts,Act.put,lA,lB,lC,lD,lE,↓reduceIte,Nat.reduceEqDiff]
  have J:=lh_ (((I.out.gr (HG0.out.trans hg)).ar (RN39.out.gr hg)).ar (RN40.out.gr hg))
  simp only [zq1_,zq2_,zq3_,zq4_,lF,lG] at J
  clear Y T I hg hf HG0 RN39 RN40 lx35
  go_wp2
  refine kF_ O ((((((J.out).er 9).er 8).er 5).er 4).er 3) fun Wx16 I=>?_;clear O K
  clear J
  have HZ8:Hid ((2:Int)=2):=lh_ (by decide +kernel)
  have su8:tw (Int.natAbs (2))≤1:=qc0.2 (by decide +kernel)
  obtain ⟨u9,HZ9⟩:=ex_ (f / (2))
  have su9:tw u9.natAbs≤1102:=by rw [← HZ9.out];have:=qs4 f (2);omega
  have HZ10:Hid (f % (2)=d):=lh_ (HD.out)
  have su10:tw d.natAbs≤1101:=by have e:=HZ10.out;first|omega|(rw [← e];have:=qx9 f (2) qH3;omega)
  have lx32:=kc2_ I
  refine kS fun K O=>?_
  have HG0:Hid (Gr Wx16 Wx16):=lh_ (Gr.refl _)
  refine qa1 8 [6,7] [5] (fun i=>if i=6 then 14 else 15) (fun i=>if i=6 then .cells #[.bool false,.slice none 0 0] 45 else .cells #[.bool false,.slice none 0 0] 45) [(true,0),(false,1),(false,2),(true,3),(true,4),(true,5)] (by kernel_rfl) (by kernel_rfl) zb1_ zb3_ (fun _ _ _ _ _ h=>h) (fun T Y=>?_)
  refine tk ?_
  refine ce1 Tryz.call211 HG0 (fun w' hw=>qi4 (2) (2) _ HZ8.out (by decide) (by decide)) ?_;clear HG0;intro vv41 HG0 _ ao11 nn11 cc11 RN41
  clear lx32;have lx32:=fun w' (h:Gr _ w')=>kc2_ I w' (HG0.out.trans h)
  refine ce2 Tryz.call218 HG0 (fun w' hw=>xi0 f (2) u9 d _ _ _ HZ9.out HZ10.out qH3 om om (I.out.r 1 rfl (HG0.out.trans hw)) (RN41.out.gr hw)) ?_;clear HG0;intro vv42 HG0 HGS ao12 nn12 cc12 ao13 nn13 cc13 RN42 RN43
  replace RN41:=lh_ (RN41.out.gr HGS.out)
  clear HGS
  clear lx32;have lx32:=fun w' (h:Gr _ w')=>kc2_ I w' (HG0.out.trans h)
  refine tk3_ ?_
  refine qa0 (Y.out _ _ ?_)
  intro G vw12 hg hf
  simp only [puts,Act.put,lA,lB,lC,lD,lE,↓reduceIte,Nat.reduceEqDiff]
  have J:=lh_ ((((I.out.fr (HG0.out.trans hg) hf (zs:=[(#[.bool false,.slice none 0 0],45),(#[.bool false,.slice none 0 0],45)]) rfl (by decide) (by decide)).ar (RN41.out.gr hg)).ar (RN42.out.gr hg)).ar (RN43.out.gr hg))
  simp only [zq1_,zq2_,zq3_,zq4_,lF,lG] at J
  clear Y T I hg hf HG0 RN41 RN42 RN43 lx32
  generalize G 6=gx44 at *
  generalize G 7=gx45 at *
  have lx44:=kc5_ J;have fx44:=kf5_ J
  have lx45:=kc6_ J;have fx45:=kf6_ J
  have r0:=Gr.refl vw12
  obtain ⟨d44_45,d45_44⟩:=J.out.ne 5 6 rfl rfl (by decide)
  go_wp2
  refine kO O ?_;clear O K
  clear r0 lx44 fx44 lx45 fx45 d44_45 d45_44
  refine fH ((((((J.out).put2 5 0 rfl).put2 6 0 rfl).er 8).er 7).er 5) fun Wx17 I=>?_
  clear J
  refine wp_seq ?_
  have lx45:=kc5_ I
  refine qh4 fun K O T Y=>?_
  iterate 7 refine tk ?_
  refine ck Tryz.call194 (fun w' hw=>qi5 d (1) _ _ (by have e9:(0:Int)<(d):=(by exact HDV.out);exact qP5 e9) (I.out.r 6 rfl hw)) ?_
  refine tk3_ ?_
  refine nzR Y O (fun w2 hg=>((I.out.gr hg).er 6).er 5) ?_;clear Y T I lx45 O K;intro Wx18 I
  refine wp_cond_false (by rfl) ?_
  refine wp_skip ?_
  show Code.wp _ _ _ _ _
  have lx38:=kc3_ I
  refine ks1_ fun K O T Y=>?_
  refine tk ?_
  refine nlS Y I fun vw14 J=>?_
  clear Y T I lx38
  have lx24:=kc0_ J;have fx24:=kf0_ J
  have r0:=Gr.refl vw14
  go_wp2
  refine kO O ?_;clear O K
  clear r0 lx24 fx24
  refine fH (((((J.out).put2 0 0 rfl).er 3).er 2).er 1) fun Wx20 I=>?_
  clear J
  refine wp_ret ?_
  try simp only [Exit.then,Exit.inBlock]
  have lx24:=kc0_ I
  have r0:=Gr.refl Wx20
  exact bR ⟨⟨(.slice ao8 nn8 cc8),rfl,(I.out.rn 1 rfl)⟩,I.out.1⟩ qy4
 have HO:=lh_ h3
 obtain rfl:c=z:=by rw [← HW3.out,xz5 (by rw [HFL.out,HR.out];exact HO.out)];exact HCL.out.symm
 clear h3
 have HZ7:Hid (((1:Int):Rat) / ((2:Int):Rat)=(1 / 2:Rat)):=lh_ (by decide +kernel)
 have su7:rz ((1 / 2:Rat))≤10:=by have e:=HZ7.out;first|omega|(rw [← e];exact qs0 (1) (2) om om om om)
 have lx35:=kc5_ I
 refine kS fun K O=>?_
 have HG0:Hid (Gr vw10 vw10):=lh_ (Gr.refl _)
 refine xn3 fun T Y=>?_
 refine tk ?_
 refine ce2 Tryz.call180 HG0 (fun w' hw=>qw9 (1) (2) ((1 / 2:Rat)) _ HZ7.out om om om om) ?_;clear HG0;intro vv39 HG0 _ ao9 nn9 cc9 ao10 nn10 cc10 RN39 RN40
 clear lx35;have lx35:=fun w' (h:Gr _ w')=>kc5_ I w' (HG0.out.trans h)
 refine ck Tryz.call129 (fun w' hw=>qu3 r ((1 / 2:Rat)) (1) _ _ _ _ _ (by have e9:(0:Rat)<(r) - ((1 / 2:Rat)):=(by exact HO.out);exact qs1 e9) om om (I.out.r 3 rfl (HG0.out.trans hw)) (I.out.r 4 rfl (HG0.out.trans hw)) (RN39.out.gr hw) (RN40.out.gr hw)) ?_
 refine qa0 (Y.out _ _ ?_)
 intro G vw11 hg hf
 simp only [puts,Act.put,lA,lB,lC,lD,lE,↓reduceIte,Nat.reduceEqDiff]
 have J:=lh_ (((I.out.gr (HG0.out.trans hg)).ar (RN39.out.gr hg)).ar (RN40.out.gr hg))
 simp only [zq1_,zq2_,zq3_,zq4_,lF,lG] at J
 clear Y T I hg hf HG0 RN39 RN40 lx35
 go_wp2
 refine kF_ O ((((((J.out).er 9).er 8).er 5).er 4).er 3) fun Wx16 I=>?_;clear O K
 clear J
 have HZ8:Hid ((2:Int)=2):=lh_ (by decide +kernel)
 have su8:tw (Int.natAbs (2))≤1:=qc0.2 (by decide +kernel)
 obtain ⟨u9,HZ9⟩:=ex_ (f / (2))
 have su9:tw u9.natAbs≤1102:=by rw [← HZ9.out];have:=qs4 f (2);omega
 have HZ10:Hid (f % (2)=d):=lh_ (HD.out)
 have su10:tw d.natAbs≤1101:=by have e:=HZ10.out;first|omega|(rw [← e];have:=qx9 f (2) qH3;omega)
 have lx32:=kc2_ I
 refine kS fun K O=>?_
 have HG0:Hid (Gr Wx16 Wx16):=lh_ (Gr.refl _)
 refine qa1 8 [6,7] [5] (fun i=>if i=6 then 14 else 15) (fun i=>if i=6 then .cells #[.bool false,.slice none 0 0] 45 else .cells #[.bool false,.slice none 0 0] 45) [(true,0),(false,1),(false,2),(true,3),(true,4),(true,5)] (by kernel_rfl) (by kernel_rfl) zb1_ zb3_ (fun _ _ _ _ _ h=>h) (fun T Y=>?_)
 refine tk ?_
 refine ce1 Tryz.call211 HG0 (fun w' hw=>qi4 (2) (2) _ HZ8.out (by decide) (by decide)) ?_;clear HG0;intro vv41 HG0 _ ao11 nn11 cc11 RN41
 clear lx32;have lx32:=fun w' (h:Gr _ w')=>kc2_ I w' (HG0.out.trans h)
 refine ce2 Tryz.call218 HG0 (fun w' hw=>xi0 f (2) u9 d _ _ _ HZ9.out HZ10.out qH3 om om (I.out.r 1 rfl (HG0.out.trans hw)) (RN41.out.gr hw)) ?_;clear HG0;intro vv42 HG0 HGS ao12 nn12 cc12 ao13 nn13 cc13 RN42 RN43
 replace RN41:=lh_ (RN41.out.gr HGS.out)
 clear HGS
 clear lx32;have lx32:=fun w' (h:Gr _ w')=>kc2_ I w' (HG0.out.trans h)
 refine tk3_ ?_
 refine qa0 (Y.out _ _ ?_)
 intro G vw12 hg hf
 simp only [puts,Act.put,lA,lB,lC,lD,lE,↓reduceIte,Nat.reduceEqDiff]
 have J:=lh_ ((((I.out.fr (HG0.out.trans hg) hf (zs:=[(#[.bool false,.slice none 0 0],45),(#[.bool false,.slice none 0 0],45)]) rfl (by decide) (by decide)).ar (RN41.out.gr hg)).ar (RN42.out.gr hg)).ar (RN43.out.gr hg))
 simp only [zq1_,zq2_,zq3_,zq4_,lF,lG] at J
 clear Y T I hg hf HG0 RN41 RN42 RN43 lx32
 generalize G 6=gx44 at *
 generalize G 7=gx45 at *
 have lx44:=kc5_ J;have fx44:=kf5_ J
 have lx45:=kc6_ J;have fx45:=kf6_ J
 have r0:=Gr.refl vw12
 obtain ⟨d44_45,d45_44⟩:=J.out.ne 5 6 rfl rfl (by decide)
 go_wp2
 refine kO O ?_;clear O K
 clear r0 lx44 fx44 lx45 fx45 d44_45 d45_44
 refine fH ((((((J.out).put2 5 0 rfl).put2 6 0 rfl).er 8).er 7).er 5) fun Wx17 I=>?_
 clear J
 refine wp_seq ?_
 have lx45:=kc5_ I
 refine qh4 fun K O T Y=>?_
 iterate 6 refine tk ?_
 iterate 3 refine sk ?_
 refine tk2_ ?_
 refine nzR Y O (fun w2 hg=>((I.out.gr hg).er 6).er 5) ?_;clear Y T I lx45 O K;intro Wx18 I
 refine wp_cond_false (by rfl) ?_
 refine wp_skip ?_
 show Code.wp _ _ _ _ _
 have lx38:=kc3_ I
 refine ks1_ fun K O T Y=>?_
 refine tk ?_
 refine nlS Y I fun vw14 J=>?_
 clear Y T I lx38
 have lx24:=kc0_ J;have fx24:=kf0_ J
 have r0:=Gr.refl vw14
 go_wp2
 refine kO O ?_;clear O K
 clear r0 lx24 fx24
 refine fH (((((J.out).put2 0 0 rfl).er 3).er 2).er 1) fun Wx20 I=>?_
 clear J
 refine wp_ret ?_
 try simp only [Exit.then,Exit.inBlock]
 have lx24:=kc0_ I
 have r0:=Gr.refl Wx20
 exact bR ⟨⟨(.slice ao8 nn8 cc8),rfl,(I.out.rn 1 rfl)⟩,I.out.1⟩ qy4
theorem xe4 {n:Int} {M:Nat} (h:tw (Int.natAbs n)≤M) (h1:1≤M):rz ((n:Int):Rat)≤M:=qo3 h (Nat.le_trans (qc0.2 (by decide +kernel):tw 1≤1) h1)
theorem qC_ (k:Nat):(10:Rat) ^ k=(((10 ^ k:Nat):Int):Rat):=by
 induction k with
 | zero=>rfl
 | succ k ih=>rw [Rat.pow_succ,ih,Nat.pow_succ,Int.natCast_mul,Rat.intCast_mul];rfl
theorem xe2 (way:Int) (a:Rat) (k:Nat) (z:Int) (va1 va2:Value) (w:World) (hw1:1≤way) (hw2:way≤3) (hz:rnd way (a*(((10 ^ k:Nat):Int):Rat))=z) (hk:k≤100) (hs:rz a≤1000) (h1:Rn w va1 a.num.natAbs) (h2:Rn w va2 (a.den - 1)) :
  Calls Tryz.prog 246 #[.agg #[.bool (decide (a.num<0)),va1,va2],.int .i64 ((k:Nat):Int),.int .i64 way] w fun e w'=>(∃ r1:Value,e=.returned (.tuple #[(.agg #[.bool (z<0),r1]),.int .i64 0])∧Rn w' r1 z.natAbs)∧Gr w w':=by
 rw [← qC_] at hz
 have hsx:rz (a*(10:Rat) ^ k)≤1100:=by have e1:=qn4 a ((10:Rat) ^ k);have e2:=qx2 hk;omega
 have hsf:=Nat.le_trans (qv2 (a*(10:Rat) ^ k)) (Nat.succ_le_succ hsx)
 have hszf:rz (((a*(10:Rat) ^ k).floor:Int):Rat)≤1102:=xe4 om (by decide)
 exact xA2 a _ _ k way _ _ z _ va1 va2 w (lh_ rfl) (lh_ rfl) (lh_ rfl) (lh_ rfl) (lh_ rfl) (lh_ hz) hw1 hw2 hk hs hsx hsf hszf h1 h2
theorem qz5 (a:Rat) (n way c z:Int) (va1 va2:Value) (w:World) (hc:qh5 n way=c) (h0:¬ c=0) (hz:(0:Int)=z) (h1:Rn w va1 a.num.natAbs) (h2:Rn w va2 (a.den - 1)) :
  Calls Tryz.prog 246 #[.agg #[.bool (decide (a.num<0)),va1,va2],.int .i64 n,.int .i64 way] w fun e w'=>(∃ r1:Value,e=.returned (.tuple #[(.agg #[.bool (z<0),r1]),.int .i64 c])∧Rn w' r1 z.natAbs)∧Gr w w':=by
 exact xA3 a n way c z va1 va2 w (lh_ hz) (by rw [← hz];exact qc0.2 (by decide +kernel)) (lh_ hc) h0 h1 h2
end Go.Proofs.YtobojnodohjiaaaGreatDoor
