
/- gussetref04: Round, Text. -/
import Derived.Test.YtobojnodohjiaaaGreatDoorRDec1
import Derived.Test.YtobojnodohjiaaaGreatDoorPW
import Derived.Test.YtobojnodohjiaaaGreatDoorPJ
set_option maxRecDepth 100000
set_option maxHeartbeats 16000000
set_option linter.unusedVariables false
set_option linter.unusedSimpArgs false
namespace Go.Proofs.YtobojnodohjiaaaGreatDoor
open Go.RowKit
attribute [local go_sem ↓] Go.wp_at_zero Go.wp_at_succ
attribute [local go_sem ↓] eq_nat eq_nat_zero eq_int
theorem qz8 {way:Int} {a:Rat} {k M:Nat} (hk:k≤100) (h:rz a≤M):tw (Int.natAbs (rnd way (a*(((10 ^ k:Nat):Int):Rat))))≤M+110:=by
 have e1:=qn4 a ((10:Rat) ^ k)
 have e2:=qx2 hk
 rw [← qC_]
 rcases qF9 way (a*(10:Rat) ^ k) with e|e <;> rw [e]
 ·have:=qv2 (a*(10:Rat) ^ k);omega
 rw [← qz_,Int.natAbs_neg]
 have:=qv2 (-(a*(10:Rat) ^ k))
 rw [qG2] at this
 omega
theorem xz9 (a z t:Rat) (k:Nat) (way m:Int) (va1 va2:Value) (w:World) (HM:Hid (rnd way (a*(((10 ^ k:Nat):Int):Rat))=m)) (HT9:Hid ((1:Rat)*(10:Rat) ^ k=t)) (HZ:Hid (((m:Int):Rat) / t=z)) (hk:k≤100) (hw1:1≤way) (hw2:way≤3) (hs:rz a≤800) (hst:rz t≤30) (hsm:rz ((m:Int):Rat)≤1000) (bx21:Rn w va1 a.num.natAbs) (bx22:Rn w va2 (a.den - 1)) :
  Calls Tryz.prog 181 #[.agg #[.bool (decide (a.num<0)),va1,va2],.int .i64 (((k:Nat):Int)),.int .i64 way] w fun e w'=>(∃ r1 r2:Value,e=.returned (.tuple #[(.agg #[.bool (decide (z.num<0)),r1,r2]),.int .i64 0])∧Rn w' r1 z.num.natAbs∧Rn w' r2 (z.den - 1))∧Gr w w':=by
 obtain ⟨ao_va1,n_va1,c_va1,rfl⟩:=Rn.sl bx21
 obtain ⟨ao_va2,n_va2,c_va2,rfl⟩:=Rn.sl bx22
 go_enter Tryz.func181,Tryz.ntmps181
 have I:=lh_ (hp0 w)
 replace I:=lh_ ((I.out.ar bx21).ar bx22)
 simp only [lF,lG] at I
 clear bx21 bx22
 refine kSl fun K O=>?_;go_wp2
 refine kF_ O (al2_ I) fun Wx0 J=>?_;clear O K
 clear I;have I:=J;clear J
 generalize w.heap.size+1=gx24 at *
 have HZ1:Hid (rnd way (a*(((10 ^ k:Nat):Int):Rat))=m):=lh_ (HM.out)
 have su1:tw m.natAbs≤910:=by have e:=HZ1.out;first|omega|(rw [← e];exact qz8 om om)
 have lx23:=kc2_ I
 refine kS fun K O=>?_
 have HG0:Hid (Gr Wx0 Wx0):=lh_ (Gr.refl _)
 refine qx6 fun T Y=>?_
 refine tk3_ ?_
 refine ce1 Tryz.call246 HG0 (fun w' hw=>xe2 way a k m _ _ _ om om HZ1.out om om (I.out.r 0 rfl (HG0.out.trans hw)) (I.out.r 1 rfl (HG0.out.trans hw))) ?_;clear HG0;intro vv26 HG0 _ ao1 nn1 cc1 RN26
 clear lx23;have lx23:=fun w' (h:Gr _ w')=>kc2_ I w' (HG0.out.trans h)
 refine tk3_ ?_
 refine qa0 (Y.out _ _ ?_)
 intro vw1 hg
 simp only [puts,Act.put,lA,lB,lC,lD,lE,↓reduceIte,Nat.reduceEqDiff]
 have J:=lh_ ((I.out.gr (HG0.out.trans hg)).ar (RN26.out.gr hg))
 simp only [zq1_,zq2_,zq3_,zq4_,lF,lG] at J
 clear Y T I hg HG0 RN26 lx23
 go_wp2
 refine kF_ O (((((J.out).aL (vw1.heap.size)).er 2).er 1).er 0) fun Wx1 I=>?_;clear O K
 clear J
 generalize vw1.heap.size=gx27 at *
 refine wp_seq ?_
 refine ks2_ fun K O T Y=>?_
 refine tk2_ ?_
 refine nz Y I O ?_;clear Y T I O K;intro vw2 I
 refine wp_cond_false (by rfl) ?_
 refine wp_skip ?_
 show Code.wp _ _ _ _ _
 have HZ2:Hid (((1:Int):Rat)=(1:Rat)):=lh_ (by decide +kernel)
 have su2:rz ((1:Rat))≤5:=qo3 (qc0.2 (by decide +kernel)) (qc0.2 (by decide +kernel))
 have HZ3:Hid ((1:Rat)*(10:Rat) ^ k=t):=lh_ (HT9.out)
 have su3:rz t≤30:=by have e:=HZ3.out;first|omega|(rw [← e];have e1:=qn4 (1:Rat) ((10:Rat) ^ k);have e2:=qx2 (k:=k) om;omega)
 have HZ4:Hid ((((m:Int):Rat)) / t=z):=lh_ (HZ.out)
 have su4:rz z≤1030:=by have e:=HZ4.out;first|omega|(rw [← e];have:=xe3 (((m:Int):Rat)) t;omega)
 have lx27:=kc2_ I
 refine kS fun K O=>?_
 have HG0:Hid (Gr vw2 vw2):=lh_ (Gr.refl _)
 refine xQ9 fun T Y=>?_
 refine tk3_ ?_
 refine ce2 Tryz.call173 HG0 (fun w' hw=>qg3 (1) (1:Rat) _ HZ2.out om om) ?_;clear HG0;intro vv28 HG0 _ ao2 nn2 cc2 ao3 nn3 cc3 RN28 RN29
 clear lx27;have lx27:=fun w' (h:Gr _ w')=>kc2_ I w' (HG0.out.trans h)
 refine ce2 Tryz.call247 HG0 (fun w' hw=>qG0 (1:Rat) t k _ _ _ (lh_ HZ3.out) om om (RN28.out.gr hw) (RN29.out.gr hw)) ?_;clear HG0;intro vv30 HG0 HGS ao4 nn4 cc4 ao5 nn5 cc5 RN30 RN31
 replace RN28:=lh_ (RN28.out.gr HGS.out)
 replace RN29:=lh_ (RN29.out.gr HGS.out)
 clear HGS
 clear lx27;have lx27:=fun w' (h:Gr _ w')=>kc2_ I w' (HG0.out.trans h)
 refine ce2 Tryz.call89 HG0 (fun w' hw=>qC1 (((m:Int):Rat)) t z _ _ _ _ _ HZ4.out om om (I.out.r 1 rfl (HG0.out.trans hw)) (Rn.zero _) (RN30.out.gr hw) (RN31.out.gr hw)) ?_;clear HG0;intro vv32 HG0 HGS ao6 nn6 cc6 ao7 nn7 cc7 RN32 RN33
 replace RN28:=lh_ (RN28.out.gr HGS.out)
 replace RN29:=lh_ (RN29.out.gr HGS.out)
 replace RN30:=lh_ (RN30.out.gr HGS.out)
 replace RN31:=lh_ (RN31.out.gr HGS.out)
 clear HGS
 clear lx27;have lx27:=fun w' (h:Gr _ w')=>kc2_ I w' (HG0.out.trans h)
 refine qa0 (Y.out _ _ ?_)
 intro G vw3 hg hf
 simp only [puts,Act.put,lA,lB,lC,lD,lE,↓reduceIte,Nat.reduceEqDiff]
 have J:=lh_ (((((((I.out.gr (HG0.out.trans hg)).ar (RN28.out.gr hg)).ar (RN29.out.gr hg)).ar (RN30.out.gr hg)).ar (RN31.out.gr hg)).ar (RN32.out.gr hg)).ar (RN33.out.gr hg))
 simp only [zq1_,zq2_,zq3_,zq4_,lF,lG] at J
 clear Y T I hg hf HG0 RN28 RN29 RN30 RN31 RN32 RN33 lx27
 have lx24:=kc0_ J;have fx24:=kf0_ J
 have r0:=Gr.refl vw3
 go_wp2
 refine kO O ?_;clear O K
 clear r0 lx24 fx24
 refine fH (((((((((J.out).put2 0 0 rfl).put 0 2 _ rfl).er 6).er 5).er 4).er 3).er 2).er 1) fun Wx4 I=>?_
 clear J
 refine wp_ret ?_
 try simp only [Exit.then,Exit.inBlock]
 have lx24:=kc0_ I
 have r0:=Gr.refl Wx4
 exact bR ⟨⟨(.slice ao6 nn6 cc6),(.slice ao7 nn7 cc7),rfl,(I.out.rn 1 rfl),(I.out.rn 2 rfl)⟩,I.out.1⟩ (by simp [results,Tryz.results181,go_sem,lx24 _ r0])
theorem qJ7 (a:Rat) (n way c z0:Int) (va1 va2:Value) (w:World) (HC:Hid (qh5 n way=c)) (hc0:¬ c=0) (HZ0:Hid ((0:Int)=z0)) (bx21:Rn w va1 a.num.natAbs) (bx22:Rn w va2 (a.den - 1)) :
  CB 181 #[.agg #[.bool (decide (a.num<0)),va1,va2],.int .i64 n,.int .i64 way] w ((.tuple #[(.agg #[.bool false,.slice none 0 0,.slice none 0 0]),.int .i64 c])):=by
 obtain ⟨ao_va1,n_va1,c_va1,rfl⟩:=Rn.sl bx21
 obtain ⟨ao_va2,n_va2,c_va2,rfl⟩:=Rn.sl bx22
 go_enter Tryz.func181,Tryz.ntmps181
 have I:=lh_ (hp0 w)
 replace I:=lh_ ((I.out.ar bx21).ar bx22)
 simp only [lF,lG] at I
 clear bx21 bx22
 refine kSl fun K O=>?_;go_wp2
 refine kF_ O (al2_ I) fun Wx0 J=>?_;clear O K
 clear I;have I:=J;clear J
 generalize w.heap.size+1=gx24 at *
 have HZ1:Hid ((0:Int)=z0):=lh_ (HZ0.out)
 have su1:tw z0.natAbs≤1:=by have e:=HZ1.out;first|omega|(rw [← e];exact qc0.2 (by decide +kernel))
 have lx23:=kc2_ I
 refine kS fun K O=>?_
 have HG0:Hid (Gr Wx0 Wx0):=lh_ (Gr.refl _)
 refine qx6 fun T Y=>?_
 refine tk3_ ?_
 refine ce1 Tryz.call246 HG0 (fun w' hw=>qz5 a n way c z0 _ _ _ (HC.out) hc0 HZ1.out (I.out.r 0 rfl (HG0.out.trans hw)) (I.out.r 1 rfl (HG0.out.trans hw))) ?_;clear HG0;intro vv26 HG0 _ ao1 nn1 cc1 RN26
 clear lx23;have lx23:=fun w' (h:Gr _ w')=>kc2_ I w' (HG0.out.trans h)
 refine tk3_ ?_
 refine qa0 (Y.out _ _ ?_)
 intro vw1 hg
 simp only [puts,Act.put,lA,lB,lC,lD,lE,↓reduceIte,Nat.reduceEqDiff]
 have J:=lh_ ((I.out.gr (HG0.out.trans hg)).ar (RN26.out.gr hg))
 simp only [zq1_,zq2_,zq3_,zq4_,lF,lG] at J
 clear Y T I hg HG0 RN26 lx23
 go_wp2
 refine kF_ O (((((J.out).aL (vw1.heap.size)).er 2).er 1).er 0) fun Wx1 I=>?_;clear O K
 clear J
 generalize vw1.heap.size=gx27 at *
 refine wp_seq ?_
 have hd1:(c == (0))=false:=by have:¬ (c=0):=(ok);simpa using this
 have hd2:(c != (0))=true:=by have:¬ (c=0):=(ok);simpa using this
 refine ks2_ fun K O T Y=>?_
 refine tk2_ ?_
 refine nz Y I O ?_;clear Y T I O K;intro vw2 I
 clear hd1 hd2
 refine wp_cond_true (by rfl) ?_
 refine ks2_ fun K O T Y=>?_
 refine tk2_ ?_
 refine nlS Y I fun vw3 J=>?_
 clear Y T I
 have lx24:=kc0_ J;have fx24:=kf0_ J
 have r0:=Gr.refl vw3
 go_wp2
 refine kO O ?_;clear O K
 clear r0 lx24 fx24
 refine fH (((J.out).put2 0 0 rfl).put 0 2 _ rfl) fun Wx3 I=>?_
 clear J
 refine wp_ret ?_
 try simp only [Exit.then,Exit.inBlock]
 have lx24:=kc0_ I
 have r0:=Gr.refl Wx3
 exact bR ⟨rfl,I.out.1⟩ (by simp [results,Tryz.results181,go_sem,lx24 _ r0])
theorem xJ3 (way:Int) (a:Rat) (k:Nat) (z:Rat) (va1 va2:Value) (w:World) (hz:rdd way a k=z) (hw1:1≤way) (hw2:way≤3) (hk:k≤100) (hs:rz a≤800) (h1:Rn w va1 a.num.natAbs) (h2:Rn w va2 (a.den - 1)) :
  Calls Tryz.prog 181 #[.agg #[.bool (decide (a.num<0)),va1,va2],.int .i64 ((k:Nat):Int),.int .i64 way] w fun e w'=>(∃ r1 r2:Value,e=.returned (.tuple #[(.agg #[.bool (decide (z.num<0)),r1,r2]),.int .i64 0])∧Rn w' r1 z.num.natAbs∧Rn w' r2 (z.den - 1))∧Gr w w':=by
 refine xz9 a z _ k way _ va1 va2 w (lh_ rfl) (lh_ rfl) (lh_ ?_) hk hw1 hw2 hs (by rw [Rat.one_mul];exact Nat.le_trans (qx2 hk) (by decide)) (xe4 (Nat.le_trans (qz8 hk hs) (by decide)) (by decide)) h1 h2
 rw [← hz,rdd,Rat.mkRat_eq_div,Rat.one_mul,qC_,Rat.intCast_natCast]
theorem qU5 (a:Rat) (n way c:Int) (va1 va2:Value) (w:World) (hc:qh5 n way=c) (h0:¬ c=0) (h1:Rn w va1 a.num.natAbs) (h2:Rn w va2 (a.den - 1)) :
  Calls Tryz.prog 181 #[.agg #[.bool (decide (a.num<0)),va1,va2],.int .i64 n,.int .i64 way] w fun e w'=>(∃ r1 r2:Value,e=.returned (.tuple #[(.agg #[.bool (decide (((0:Rat)).num<0)),r1,r2]),.int .i64 c])∧Rn w' r1 (Int.natAbs (((0:Rat)).num))∧Rn w' r2 (((0:Rat)).den - 1))∧Gr w w':=by
 refine (qJ7 a n way c _ va1 va2 w (lh_ hc) h0 (lh_ rfl) h1 h2).mono ?_
 rintro e w' ⟨rfl,hb⟩
 exact ⟨⟨_,_,rfl,Rn.zero _,Rn.zero _⟩,hb⟩
end Go.Proofs.YtobojnodohjiaaaGreatDoor
