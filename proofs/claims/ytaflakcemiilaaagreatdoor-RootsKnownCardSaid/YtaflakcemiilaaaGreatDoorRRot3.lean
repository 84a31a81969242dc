
/- gussetref05.Both. -/
import Derived.Test.YtaflakcemiilaaaGreatDoorRRot2
set_option maxRecDepth 100000
set_option maxHeartbeats 16000000
set_option linter.unusedVariables false
set_option linter.unusedSimpArgs false
namespace Go.Proofs.YtaflakcemiilaaaGreatDoor
open Go.RowKit
attribute [local go_sem ↓] Go.wp_at_zero Go.wp_at_succ
attribute [local go_sem ↓] qd6 qa7 qf4
theorem qZ0 (a:Rat) (n:Int) (va1 va2:Value) (w:World) (hn:n<0) (bx21:Rn w va1 a.num.natAbs) (bx22:Rn w va2 (a.den - 1)) :
  Calls Tryz.prog 26 #[(Value.agg #[.bool (decide (a.num<0)),va1,va2]),.int .i64 n] w fun e w'=>e=.returned ((.tuple #[(.agg #[.bool false,.slice none 0 0,.slice none 0 0]),(.agg #[.bool false,.slice none 0 0,.slice none 0 0]),.int .i64 1]))∧Below w.heap.size w w':=by
 obtain ⟨ao_va1,n_va1,c_va1,rfl⟩:=Rn.sl bx21
 obtain ⟨ao_va2,n_va2,c_va2,rfl⟩:=Rn.sl bx22
 go_enter Tryz.func26,Tryz.ntmps26
 have I:=lh_ (hp0 w)
 replace I:=lh_ ((I.out.ar bx21).ar bx22)
 simp only [lF,lG] at I
 clear bx21 bx22
 refine kS fun K O=>?_
 refine wp_region_lit ?_
 go_wp2
 refine kF_ O ((((I.out).aL (w.heap.size)).aL (w.heap.size+1)).aL (w.heap.size+1+1)) fun Wx0 J=>?_;clear O K
 clear I;have I:=J;clear J
 generalize w.heap.size+1+1=gx25 at *
 generalize w.heap.size+1=gx24 at *
 refine kS fun K O=>?_
 refine wp_region_lit ?_
 go_wp2
 refine kF_ O ((I.out).aL (Wx0.heap.size)) fun Wx1 J=>?_;clear O K
 clear I;have I:=J;clear J
 generalize Wx0.heap.size=gx26 at *
 have lx23:=c2_ I
 refine ks4_ fun K O T Y=>?_
 refine tk2_ ?_
 refine ck Tryz.call96 (fun w' hw=>xt0 a n _ _ _ om (I.out.r 0 rfl hw) (I.out.r 1 rfl hw)) ?_
 refine tk ?_
 refine nlS Y I fun vw1 J=>?_
 clear Y T I lx23
 go_wp2
 refine kO O ?_;clear O K
 have I:=J;clear J
 refine wp_seq ?_
 refine ks2_ fun K O T Y=>?_
 refine tk2_ ?_
 refine nlS Y I fun vw2 J=>?_
 clear Y T I
 go_wp2
 refine kO O ?_;clear O K
 have I:=J;clear J
 refine wp_cond_true (by rfl) ?_
 have lx24:=c3_ I;have fx24:=f3_ I
 have lx25:=c4_ I;have fx25:=f4_ I
 have lx26:=c5_ I;have fx26:=f5_ I
 have r0:=Gr.refl vw2
 obtain ⟨d24_25,d25_24⟩:=I.out.ne 3 4 rfl rfl (by decide)
 obtain ⟨d24_26,d26_24⟩:=I.out.ne 3 5 rfl rfl (by decide)
 obtain ⟨d25_26,d26_25⟩:=I.out.ne 4 5 rfl rfl (by decide)
 refine kS fun K O=>?_
 go_region
 go_wp2
 refine kO O ?_;clear O K
 clear r0 lx24 fx24 lx25 fx25 lx26 fx26 d24_25 d25_24 d24_26 d26_24 d25_26 d26_25
 refine fH (((((((I.out).put2 3 0 rfl).put 3 2 _ rfl).put2 4 0 rfl).put 4 2 _ rfl).er 5).gr ((Below.refl _ _).drew)) fun Wx4 J=>?_
 clear I;have I:=J;clear J
 refine wp_ret ?_
 try simp only [Exit.then,Exit.inBlock]
 have lx24:=c3_ I
 have lx25:=c4_ I
 have r0:=Gr.refl Wx4
 exact bodyPost_ret (v:=.tuple #[(.agg #[.bool false,.slice none 0 0,.slice none 0 0]),(.agg #[.bool false,.slice none 0 0,.slice none 0 0]),.int .i64 1]) (by simp [results,Tryz.results26,go_sem,lx24 _ r0,lx25 _ r0]) rfl ⟨rfl,I.out.1⟩
theorem qR1 (a:Rat) (n:Int) (va1 va2:Value) (w:World) (hn:100<n) (bx21:Rn w va1 a.num.natAbs) (bx22:Rn w va2 (a.den - 1)) :
  Calls Tryz.prog 26 #[(Value.agg #[.bool (decide (a.num<0)),va1,va2]),.int .i64 n] w fun e w'=>e=.returned ((.tuple #[(.agg #[.bool false,.slice none 0 0,.slice none 0 0]),(.agg #[.bool false,.slice none 0 0,.slice none 0 0]),.int .i64 3]))∧Below w.heap.size w w':=by
 obtain ⟨ao_va1,n_va1,c_va1,rfl⟩:=Rn.sl bx21
 obtain ⟨ao_va2,n_va2,c_va2,rfl⟩:=Rn.sl bx22
 go_enter Tryz.func26,Tryz.ntmps26
 have I:=lh_ (hp0 w)
 replace I:=lh_ ((I.out.ar bx21).ar bx22)
 simp only [lF,lG] at I
 clear bx21 bx22
 refine kS fun K O=>?_
 refine wp_region_lit ?_
 go_wp2
 refine kF_ O ((((I.out).aL (w.heap.size)).aL (w.heap.size+1)).aL (w.heap.size+1+1)) fun Wx0 J=>?_;clear O K
 clear I;have I:=J;clear J
 generalize w.heap.size+1+1=gx25 at *
 generalize w.heap.size+1=gx24 at *
 refine kS fun K O=>?_
 refine wp_region_lit ?_
 go_wp2
 refine kF_ O ((I.out).aL (Wx0.heap.size)) fun Wx1 J=>?_;clear O K
 clear I;have I:=J;clear J
 generalize Wx0.heap.size=gx26 at *
 have lx23:=c2_ I
 refine ks4_ fun K O T Y=>?_
 refine tk2_ ?_
 refine ck Tryz.call96 (fun w' hw=>xa0 a n _ _ _ om (I.out.r 0 rfl hw) (I.out.r 1 rfl hw)) ?_
 refine tk ?_
 refine nlS Y I fun vw1 J=>?_
 clear Y T I lx23
 go_wp2
 refine kO O ?_;clear O K
 have I:=J;clear J
 refine wp_seq ?_
 refine ks2_ fun K O T Y=>?_
 refine tk2_ ?_
 refine nlS Y I fun vw2 J=>?_
 clear Y T I
 go_wp2
 refine kO O ?_;clear O K
 have I:=J;clear J
 refine wp_cond_true (by rfl) ?_
 have lx24:=c3_ I;have fx24:=f3_ I
 have lx25:=c4_ I;have fx25:=f4_ I
 have lx26:=c5_ I;have fx26:=f5_ I
 have r0:=Gr.refl vw2
 obtain ⟨d24_25,d25_24⟩:=I.out.ne 3 4 rfl rfl (by decide)
 obtain ⟨d24_26,d26_24⟩:=I.out.ne 3 5 rfl rfl (by decide)
 obtain ⟨d25_26,d26_25⟩:=I.out.ne 4 5 rfl rfl (by decide)
 refine kS fun K O=>?_
 go_region
 go_wp2
 refine kO O ?_;clear O K
 clear r0 lx24 fx24 lx25 fx25 lx26 fx26 d24_25 d25_24 d24_26 d26_24 d25_26 d26_25
 refine fH (((((((I.out).put2 3 0 rfl).put 3 2 _ rfl).put2 4 0 rfl).put 4 2 _ rfl).er 5).gr ((Below.refl _ _).drew)) fun Wx4 J=>?_
 clear I;have I:=J;clear J
 refine wp_ret ?_
 try simp only [Exit.then,Exit.inBlock]
 have lx24:=c3_ I
 have lx25:=c4_ I
 have r0:=Gr.refl Wx4
 exact bodyPost_ret (v:=.tuple #[(.agg #[.bool false,.slice none 0 0,.slice none 0 0]),(.agg #[.bool false,.slice none 0 0,.slice none 0 0]),.int .i64 3]) (by simp [results,Tryz.results26,go_sem,lx24 _ r0,lx25 _ r0]) rfl ⟨rfl,I.out.1⟩
theorem qW4 (a:Rat) (k:Nat) (va1 va2:Value) (w:World) (hk:k≤100) (HA:Hid (a<0)) (bx21:Rn w va1 a.num.natAbs) (bx22:Rn w va2 (a.den - 1)) :
  Calls Tryz.prog 26 #[(Value.agg #[.bool (decide (a.num<0)),va1,va2]),.int .i64 (((k:Nat):Int))] w fun e w'=>e=.returned ((.tuple #[(.agg #[.bool false,.slice none 0 0,.slice none 0 0]),(.agg #[.bool false,.slice none 0 0,.slice none 0 0]),.int .i64 1]))∧Below w.heap.size w w':=by
 obtain ⟨ao_va1,n_va1,c_va1,rfl⟩:=Rn.sl bx21
 obtain ⟨ao_va2,n_va2,c_va2,rfl⟩:=Rn.sl bx22
 go_enter Tryz.func26,Tryz.ntmps26
 have I:=lh_ (hp0 w)
 replace I:=lh_ ((I.out.ar bx21).ar bx22)
 simp only [lF,lG] at I
 clear bx21 bx22
 refine kS fun K O=>?_
 refine wp_region_lit ?_
 go_wp2
 refine kF_ O ((((I.out).aL (w.heap.size)).aL (w.heap.size+1)).aL (w.heap.size+1+1)) fun Wx0 J=>?_;clear O K
 clear I;have I:=J;clear J
 generalize w.heap.size+1+1=gx25 at *
 generalize w.heap.size+1=gx24 at *
 refine kS fun K O=>?_
 refine wp_region_lit ?_
 go_wp2
 refine kF_ O ((I.out).aL (Wx0.heap.size)) fun Wx1 J=>?_;clear O K
 clear I;have I:=J;clear J
 generalize Wx0.heap.size=gx26 at *
 have lx23:=c2_ I
 refine ks4_ fun K O T Y=>?_
 refine tk2_ ?_
 refine ck Tryz.call96 (fun w' hw=>qZ6 a k _ _ _ om (lh_ (by first|exact ok|exact HA.out)) (I.out.r 0 rfl hw) (I.out.r 1 rfl hw)) ?_
 refine tk ?_
 refine nlS Y I fun vw1 J=>?_
 clear Y T I lx23
 go_wp2
 refine kO O ?_;clear O K
 have I:=J;clear J
 refine wp_seq ?_
 refine ks2_ fun K O T Y=>?_
 refine tk2_ ?_
 refine nlS Y I fun vw2 J=>?_
 clear Y T I
 go_wp2
 refine kO O ?_;clear O K
 have I:=J;clear J
 refine wp_cond_true (by rfl) ?_
 have lx24:=c3_ I;have fx24:=f3_ I
 have lx25:=c4_ I;have fx25:=f4_ I
 have lx26:=c5_ I;have fx26:=f5_ I
 have r0:=Gr.refl vw2
 obtain ⟨d24_25,d25_24⟩:=I.out.ne 3 4 rfl rfl (by decide)
 obtain ⟨d24_26,d26_24⟩:=I.out.ne 3 5 rfl rfl (by decide)
 obtain ⟨d25_26,d26_25⟩:=I.out.ne 4 5 rfl rfl (by decide)
 refine kS fun K O=>?_
 go_region
 go_wp2
 refine kO O ?_;clear O K
 clear r0 lx24 fx24 lx25 fx25 lx26 fx26 d24_25 d25_24 d24_26 d26_24 d25_26 d26_25
 refine fH (((((((I.out).put2 3 0 rfl).put 3 2 _ rfl).put2 4 0 rfl).put 4 2 _ rfl).er 5).gr ((Below.refl _ _).drew)) fun Wx4 J=>?_
 clear I;have I:=J;clear J
 refine wp_ret ?_
 try simp only [Exit.then,Exit.inBlock]
 have lx24:=c3_ I
 have lx25:=c4_ I
 have r0:=Gr.refl Wx4
 exact bodyPost_ret (v:=.tuple #[(.agg #[.bool false,.slice none 0 0,.slice none 0 0]),(.agg #[.bool false,.slice none 0 0,.slice none 0 0]),.int .i64 1]) (by simp [results,Tryz.results26,go_sem,lx24 _ r0,lx25 _ r0]) rfl ⟨rfl,I.out.1⟩
theorem xk8 (a l:Rat) (k N:Nat) (va1 va2:Value) (w:World) (HA:Hid (0≤a)) (HAN:Hid (a<tq N*tq N)) (hN:N≤40) (hk:k≤100) (hs:rz a≤300) (HL:Hid (rlo a k=l)) (hsl:rz l≤200) (HSQ:Hid (l*l=a)) (bx21:Rn w va1 a.num.natAbs) (bx22:Rn w va2 (a.den - 1)) :
  Calls Tryz.prog 26 #[(Value.agg #[.bool (decide (a.num<0)),va1,va2]),.int .i64 (((k:Nat):Int))] w fun e w'=>(∃ r1 r2 r3 r4:Value,e=.returned (.tuple #[(.agg #[.bool (decide (l.num<0)),r1,r2]),(.agg #[.bool (decide (l.num<0)),r3,r4]),.int .i64 0])∧Rn w' r1 l.num.natAbs∧Rn w' r2 (l.den - 1)∧Rn w' r3 l.num.natAbs∧Rn w' r4 (l.den - 1))∧Below w.heap.size w w':=by
 obtain ⟨ao_va1,n_va1,c_va1,rfl⟩:=Rn.sl bx21
 obtain ⟨ao_va2,n_va2,c_va2,rfl⟩:=Rn.sl bx22
 go_enter Tryz.func26,Tryz.ntmps26
 have I:=lh_ (hp0 w)
 replace I:=lh_ ((I.out.ar bx21).ar bx22)
 simp only [lF,lG] at I
 clear bx21 bx22
 refine kS fun K O=>?_
 refine wp_region_lit ?_
 go_wp2
 refine kF_ O ((((I.out).aL (w.heap.size)).aL (w.heap.size+1)).aL (w.heap.size+1+1)) fun Wx0 J=>?_;clear O K
 clear I;have I:=J;clear J
 generalize w.heap.size+1+1=gx25 at *
 generalize w.heap.size+1=gx24 at *
 refine kS fun K O=>?_
 refine wp_region_lit ?_
 go_wp2
 refine kF_ O ((I.out).aL (Wx0.heap.size)) fun Wx1 J=>?_;clear O K
 clear I;have I:=J;clear J
 generalize Wx0.heap.size=gx26 at *
 have lx23:=c2_ I
 refine ks4_ fun K O T Y=>?_
 refine tk2_ ?_
 refine ck Tryz.call96 (fun w' hw=>qV1 a k _ _ _ _ om (lh_ rfl) (by have e9:=sgQ_nn0 (a:=(a)) (by first|exact ok|exact HA.out|exact HNE.out);omega) (I.out.r 0 rfl hw) (I.out.r 1 rfl hw)) ?_
 refine tk ?_
 refine nlS Y I fun vw1 J=>?_
 clear Y T I lx23
 go_wp2
 refine kO O ?_;clear O K
 have I:=J;clear J
 refine wp_seq ?_
 refine ks2_ fun K O T Y=>?_
 refine tk2_ ?_
 refine nlS Y I fun vw2 J=>?_
 clear Y T I
 go_wp2
 refine kO O ?_;clear O K
 have I:=J;clear J
 refine wp_cond_false (by rfl) ?_
 refine wp_skip ?_
 show Code.wp _ _ _ _ _
 have HZ1:Hid (rlo a k=l):=lh_ (HL.out)
 have su1:rz l≤200:=by have e:=HZ1.out;first|omega|(rw [← e];omega)
 have lx23:=c2_ I
 refine kS fun K O=>?_
 have HG0:Hid (Gr vw2 vw2):=lh_ (Gr.refl _)
 refine qq9 fun T Y=>?_
 refine tk2_ ?_
 refine qa0 rfl (by rfl) Tryz.call97 (by rfl) (fun w' hw=>(qI3 a _ l k N _ _ _ (lh_ (by first|exact ok|exact HA.out|exact HNE.out)) HAN hN (lh_ rfl) (lh_ HZ1.out) om om (I.out.r 0 rfl (HG0.out.trans hw)) (I.out.r 1 rfl (HG0.out.trans hw))).mono ?_)
 rintro e vv28 ⟨⟨rv1,rv2,rfl,bx28,bx29⟩,hg0⟩
 obtain ⟨ao1,nn1,cc1,rfl⟩:=Rn.sl bx28
 obtain ⟨ao2,nn2,cc2,rfl⟩:=Rn.sl bx29
 refine ⟨_,rfl,hg0,?_⟩
 replace hg0:=Gr.trans hw hg0;clear hw
 replace HG0:=lh_ (HG0.out.trans hg0)
 have HGS:=lh_ hg0;clear hg0
 clear HGS
 have RN28:=lh_ bx28;clear bx28
 have RN29:=lh_ bx29;clear bx29
 clear lx23;have lx23:=fun w' (h:Gr _ w')=>c2_ I w' (HG0.out.trans h)
 simp only [Act.put,lA,lB,lC]
 refine qa1 (Y.out _ _ ?_)
 intro vw3 hg
 simp only [puts,Act.put,lA,lB,lC,lD,lE,↓reduceIte,Nat.reduceEqDiff]
 have J:=lh_ (((I.out.gr (HG0.out.trans hg)).ar (RN28.out.gr hg)).ar (RN29.out.gr hg))
 simp only [zq1_,zq2_,zq3_,zq4_,lF,lG] at J
 clear Y T I hg HG0 RN28 RN29 lx23
 go_wp2
 refine kF_ O (((J.out).aL (vw3.heap.size)).er 5) fun Wx5 I=>?_;clear O K
 clear J
 generalize vw3.heap.size=gx30 at *
 refine wp_seq ?_
 have HZ2:Hid (l*(l)=a):=lh_ (HSQ.out)
 have su2:rz a≤400:=by have e:=HZ2.out;first|omega|(rw [← e];have:=qk0 l l;omega)
 have lx23:=c2_ I
 have lx30:=c7_ I
 refine kS fun K O=>?_
 have HG0:Hid (Gr Wx5 Wx5):=lh_ (Gr.refl _)
 refine xu1 fun T Y=>?_
 refine tk2_ ?_
 refine qa0 rfl (by rfl) Tryz.call99 (by rfl) (fun w' hw=>(qh6 l a _ _ _ (lh_ HZ2.out) om (I.out.r 5 rfl (HG0.out.trans hw)) (I.out.r 6 rfl (HG0.out.trans hw))).mono ?_)
 rintro e vv31 ⟨⟨rv3,rv4,rfl,bx31,bx32⟩,hg0⟩
 obtain ⟨ao3,nn3,cc3,rfl⟩:=Rn.sl bx31
 obtain ⟨ao4,nn4,cc4,rfl⟩:=Rn.sl bx32
 refine ⟨_,rfl,hg0,?_⟩
 replace hg0:=Gr.trans hw hg0;clear hw
 replace HG0:=lh_ (HG0.out.trans hg0)
 have HGS:=lh_ hg0;clear hg0
 clear HGS
 have RN31:=lh_ bx31;clear bx31
 have RN32:=lh_ bx32;clear bx32
 clear lx23;have lx23:=fun w' (h:Gr _ w')=>c2_ I w' (HG0.out.trans h)
 clear lx30;have lx30:=fun w' (h:Gr _ w')=>c7_ I w' (HG0.out.trans h)
 simp only [Act.put,lA,lB,lC]
 refine qa1 (Y.out _ _ ?_)
 intro G vw4 hg hf
 simp only [puts,Act.put,lA,lB,lC,lD,lE,↓reduceIte,Nat.reduceEqDiff]
 have J:=lh_ (((I.out.gr (HG0.out.trans hg)).ar (RN31.out.gr hg)).ar (RN32.out.gr hg))
 simp only [zq1_,zq2_,zq3_,zq4_,lF,lG] at J
 clear Y T I hg hf HG0 RN31 RN32 lx23 lx30
 have hw:=Gr.refl vw4
 have I:=J
 go_wp2_with fail
 refine (xt2 a a _ _ _ _ _ (lh_ (by first|exact ok|exact HA.out|exact HNE.out)) om om (I.out.r 8 rfl hw) (I.out.r 9 rfl hw) (I.out.r 0 rfl hw) (I.out.r 1 rfl hw)).mono ?_
 rintro e vw4t ⟨rfl,hbt⟩
 replace J:=lh_ (J.out.gr hbt);clear hbt hw I
 go_wp2
 refine kF_ O ((((((J.out).er 9).er 8).er 2).er 1).er 0) fun Wx6 I=>?_;clear O K
 clear J
 refine wp_cond_true (by rfl) ?_
 have lx24:=c0_ I;have fx24:=f0_ I
 have lx25:=c1_ I;have fx25:=f1_ I
 have lx30:=c4_ I;have fx30:=f4_ I
 have r0:=Gr.refl Wx6
 obtain ⟨d24_25,d25_24⟩:=I.out.ne 0 1 rfl rfl (by decide)
 obtain ⟨d24_30,d30_24⟩:=I.out.ne 0 4 rfl rfl (by decide)
 obtain ⟨d25_30,d30_25⟩:=I.out.ne 1 4 rfl rfl (by decide)
 refine kS fun K O=>?_
 go_region
 go_wp2
 refine kO O ?_;clear O K
 clear r0 lx24 fx24 lx25 fx25 lx30 fx30 d24_25 d25_24 d24_30 d30_24 d25_30 d30_25
 refine fH ((((((I.out).put2 0 0 rfl).put 0 2 _ rfl).put2 1 0 rfl).put 1 2 _ rfl).gr ((Below.refl _ _).drew)) fun Wx7 J=>?_
 clear I;have I:=J;clear J
 refine wp_ret ?_
 try simp only [Exit.then,Exit.inBlock]
 have lx24:=c0_ I
 have lx25:=c1_ I
 have r0:=Gr.refl Wx7
 exact bodyPost_ret (v:=.tuple #[(.agg #[.bool (decide (l.num<0)),(.slice ao1 nn1 cc1),(.slice ao2 nn2 cc2)]),(.agg #[.bool (decide (l.num<0)),(.slice ao1 nn1 cc1),(.slice ao2 nn2 cc2)]),.int .i64 0]) (by simp [results,Tryz.results26,go_sem,lx24 _ r0,lx25 _ r0]) rfl ⟨⟨(.slice ao1 nn1 cc1),(.slice ao2 nn2 cc2),(.slice ao1 nn1 cc1),(.slice ao2 nn2 cc2),rfl,(I.out.rn 2 rfl),(I.out.rn 3 rfl),(I.out.rn 2 rfl),(I.out.rn 3 rfl)⟩,I.out.1⟩
theorem xq4 (a l:Rat) (k N:Nat) (st h:Rat) (va1 va2:Value) (w:World) (HA:Hid (0≤a)) (HAN:Hid (a<tq N*tq N)) (hN:N≤40) (hk:k≤100) (hs:rz a≤300) (HL:Hid (rlo a k=l)) (hsl:rz l≤200) (HNE:Hid (¬ l*l=a)) (HST:Hid (hq k=st)) (HADD:Hid (l+st=h)) (bx21:Rn w va1 a.num.natAbs) (bx22:Rn w va2 (a.den - 1)) :
  Calls Tryz.prog 26 #[(Value.agg #[.bool (decide (a.num<0)),va1,va2]),.int .i64 (((k:Nat):Int))] w fun e w'=>(∃ r1 r2 r3 r4:Value,e=.returned (.tuple #[(.agg #[.bool (decide (l.num<0)),r1,r2]),(.agg #[.bool (decide (h.num<0)),r3,r4]),.int .i64 0])∧Rn w' r1 l.num.natAbs∧Rn w' r2 (l.den - 1)∧Rn w' r3 h.num.natAbs∧Rn w' r4 (h.den - 1))∧Below w.heap.size w w':=by
 obtain ⟨ao_va1,n_va1,c_va1,rfl⟩:=Rn.sl bx21
 obtain ⟨ao_va2,n_va2,c_va2,rfl⟩:=Rn.sl bx22
 go_enter Tryz.func26,Tryz.ntmps26
 have I:=lh_ (hp0 w)
 replace I:=lh_ ((I.out.ar bx21).ar bx22)
 simp only [lF,lG] at I
 clear bx21 bx22
 refine kS fun K O=>?_
 refine wp_region_lit ?_
 go_wp2
 refine kF_ O ((((I.out).aL (w.heap.size)).aL (w.heap.size+1)).aL (w.heap.size+1+1)) fun Wx0 J=>?_;clear O K
 clear I;have I:=J;clear J
 generalize w.heap.size+1+1=gx25 at *
 generalize w.heap.size+1=gx24 at *
 refine kS fun K O=>?_
 refine wp_region_lit ?_
 go_wp2
 refine kF_ O ((I.out).aL (Wx0.heap.size)) fun Wx1 J=>?_;clear O K
 clear I;have I:=J;clear J
 generalize Wx0.heap.size=gx26 at *
 have lx23:=c2_ I
 refine ks4_ fun K O T Y=>?_
 refine tk2_ ?_
 refine ck Tryz.call96 (fun w' hw=>qV1 a k _ _ _ _ om (lh_ rfl) (by have e9:=sgQ_nn0 (a:=(a)) (by first|exact ok|exact HA.out|exact HNE.out);omega) (I.out.r 0 rfl hw) (I.out.r 1 rfl hw)) ?_
 refine tk ?_
 refine nlS Y I fun vw1 J=>?_
 clear Y T I lx23
 go_wp2
 refine kO O ?_;clear O K
 have I:=J;clear J
 refine wp_seq ?_
 refine ks2_ fun K O T Y=>?_
 refine tk2_ ?_
 refine nlS Y I fun vw2 J=>?_
 clear Y T I
 go_wp2
 refine kO O ?_;clear O K
 have I:=J;clear J
 refine wp_cond_false (by rfl) ?_
 refine wp_skip ?_
 show Code.wp _ _ _ _ _
 have HZ1:Hid (rlo a k=l):=lh_ (HL.out)
 have su1:rz l≤200:=by have e:=HZ1.out;first|omega|(rw [← e];omega)
 have lx23:=c2_ I
 refine kS fun K O=>?_
 have HG0:Hid (Gr vw2 vw2):=lh_ (Gr.refl _)
 refine qq9 fun T Y=>?_
 refine tk2_ ?_
 refine qa0 rfl (by rfl) Tryz.call97 (by rfl) (fun w' hw=>(qI3 a _ l k N _ _ _ (lh_ (by first|exact ok|exact HA.out|exact HNE.out)) HAN hN (lh_ rfl) (lh_ HZ1.out) om om (I.out.r 0 rfl (HG0.out.trans hw)) (I.out.r 1 rfl (HG0.out.trans hw))).mono ?_)
 rintro e vv28 ⟨⟨rv1,rv2,rfl,bx28,bx29⟩,hg0⟩
 obtain ⟨ao1,nn1,cc1,rfl⟩:=Rn.sl bx28
 obtain ⟨ao2,nn2,cc2,rfl⟩:=Rn.sl bx29
 refine ⟨_,rfl,hg0,?_⟩
 replace hg0:=Gr.trans hw hg0;clear hw
 replace HG0:=lh_ (HG0.out.trans hg0)
 have HGS:=lh_ hg0;clear hg0
 clear HGS
 have RN28:=lh_ bx28;clear bx28
 have RN29:=lh_ bx29;clear bx29
 clear lx23;have lx23:=fun w' (h:Gr _ w')=>c2_ I w' (HG0.out.trans h)
 simp only [Act.put,lA,lB,lC]
 refine qa1 (Y.out _ _ ?_)
 intro vw3 hg
 simp only [puts,Act.put,lA,lB,lC,lD,lE,↓reduceIte,Nat.reduceEqDiff]
 have J:=lh_ (((I.out.gr (HG0.out.trans hg)).ar (RN28.out.gr hg)).ar (RN29.out.gr hg))
 simp only [zq1_,zq2_,zq3_,zq4_,lF,lG] at J
 clear Y T I hg HG0 RN28 RN29 lx23
 go_wp2
 refine kF_ O (((J.out).aL (vw3.heap.size)).er 5) fun Wx5 I=>?_;clear O K
 clear J
 generalize vw3.heap.size=gx30 at *
 refine wp_seq ?_
 obtain ⟨u2,HZ2⟩:∃ z,Hid (l*(l)=z):=⟨_,lh_ rfl⟩
 have su2:rz u2≤400:=by rw [← HZ2.out];have:=qk0 l l;omega
 have lx23:=c2_ I
 have lx30:=c7_ I
 refine kS fun K O=>?_
 have HG0:Hid (Gr Wx5 Wx5):=lh_ (Gr.refl _)
 refine xu1 fun T Y=>?_
 refine tk2_ ?_
 refine qa0 rfl (by rfl) Tryz.call99 (by rfl) (fun w' hw=>(qh6 l u2 _ _ _ (lh_ HZ2.out) om (I.out.r 5 rfl (HG0.out.trans hw)) (I.out.r 6 rfl (HG0.out.trans hw))).mono ?_)
 rintro e vv31 ⟨⟨rv3,rv4,rfl,bx31,bx32⟩,hg0⟩
 obtain ⟨ao3,nn3,cc3,rfl⟩:=Rn.sl bx31
 obtain ⟨ao4,nn4,cc4,rfl⟩:=Rn.sl bx32
 refine ⟨_,rfl,hg0,?_⟩
 replace hg0:=Gr.trans hw hg0;clear hw
 replace HG0:=lh_ (HG0.out.trans hg0)
 have HGS:=lh_ hg0;clear hg0
 clear HGS
 have RN31:=lh_ bx31;clear bx31
 have RN32:=lh_ bx32;clear bx32
 clear lx23;have lx23:=fun w' (h:Gr _ w')=>c2_ I w' (HG0.out.trans h)
 clear lx30;have lx30:=fun w' (h:Gr _ w')=>c7_ I w' (HG0.out.trans h)
 simp only [Act.put,lA,lB,lC]
 refine qa1 (Y.out _ _ ?_)
 intro G vw4 hg hf
 simp only [puts,Act.put,lA,lB,lC,lD,lE,↓reduceIte,Nat.reduceEqDiff]
 have J:=lh_ (((I.out.gr (HG0.out.trans hg)).ar (RN31.out.gr hg)).ar (RN32.out.gr hg))
 simp only [zq1_,zq2_,zq3_,zq4_,lF,lG] at J
 clear Y T I hg hf HG0 RN31 RN32 lx23 lx30
 have hw:=Gr.refl vw4
 have I:=J
 go_wp2_with fail
 refine (qY7 u2 a _ _ _ _ _ (by first|exact ok|exact HA.out|exact HNE.out|(simp only [← HZ2.out] <;> first|exact ok|exact HA.out|exact HNE.out)) om om (I.out.r 8 rfl hw) (I.out.r 9 rfl hw) (I.out.r 0 rfl hw) (I.out.r 1 rfl hw)).mono ?_
 rintro e vw4t ⟨rfl,hbt⟩
 replace J:=lh_ (J.out.gr hbt);clear hbt hw I
 go_wp2
 refine kF_ O ((((((J.out).er 9).er 8).er 2).er 1).er 0) fun Wx6 I=>?_;clear O K
 clear J
 refine wp_cond_false (by rfl) ?_
 refine wp_skip ?_
 show Code.wp _ _ _ _ _
 have HZ3:Hid (hq k=st):=lh_ (HST.out)
 have su3:rz st≤12:=by have e:=HZ3.out;first|omega|(rw [← e];exact xg2 om)
 have HZ4:Hid (l+(st)=h):=lh_ (HADD.out)
 have su4:rz h≤213:=by have e:=HZ4.out;first|omega|(rw [← e];have:=qA_ l st;omega)
 have lx30:=c4_ I
 refine kS fun K O=>?_
 have HG0:Hid (Gr Wx6 Wx6):=lh_ (Gr.refl _)
 refine xD4 fun T Y=>?_
 refine tk3_ ?_
 refine qa0 rfl (by rfl) Tryz.call101 (by rfl) (fun w' hw=>(qD4 st k _ (lh_ HZ3.out) om).mono ?_)
 rintro e vv33 ⟨⟨rv5,rv6,rfl,bx33,bx34⟩,hg0⟩
 obtain ⟨ao5,nn5,cc5,rfl⟩:=Rn.sl bx33
 obtain ⟨ao6,nn6,cc6,rfl⟩:=Rn.sl bx34
 refine ⟨_,rfl,hg0,?_⟩
 replace hg0:=Gr.trans hw hg0;clear hw
 replace HG0:=lh_ (HG0.out.trans hg0)
 have HGS:=lh_ hg0;clear hg0
 clear HGS
 have RN33:=lh_ bx33;clear bx33
 have RN34:=lh_ bx34;clear bx34
 clear lx30;have lx30:=fun w' (h:Gr _ w')=>c4_ I w' (HG0.out.trans h)
 simp only [Act.put,lA,lB,lC]
 refine qa0 rfl (by rfl) Tryz.call100 (by rfl) (fun w' hw=>(qq1 l st h _ _ _ _ _ HZ4.out om om (I.out.r 2 rfl (HG0.out.trans hw)) (I.out.r 3 rfl (HG0.out.trans hw)) (RN33.out.gr hw) (RN34.out.gr hw)).mono ?_)
 rintro e vv35 ⟨⟨rv7,rv8,rfl,bx35,bx36⟩,hg0⟩
 obtain ⟨ao7,nn7,cc7,rfl⟩:=Rn.sl bx35
 obtain ⟨ao8,nn8,cc8,rfl⟩:=Rn.sl bx36
 refine ⟨_,rfl,hg0,?_⟩
 replace hg0:=Gr.trans hw hg0;clear hw
 replace HG0:=lh_ (HG0.out.trans hg0)
 have HGS:=lh_ hg0;clear hg0
 replace RN33:=lh_ (RN33.out.gr HGS.out)
 replace RN34:=lh_ (RN34.out.gr HGS.out)
 clear HGS
 have RN35:=lh_ bx35;clear bx35
 have RN36:=lh_ bx36;clear bx36
 clear lx30;have lx30:=fun w' (h:Gr _ w')=>c4_ I w' (HG0.out.trans h)
 simp only [Act.put,lA,lB,lC]
 refine qa1 (Y.out _ _ ?_)
 intro G vw5 hg hf
 simp only [puts,Act.put,lA,lB,lC,lD,lE,↓reduceIte,Nat.reduceEqDiff]
 have J:=lh_ (((((I.out.gr (HG0.out.trans hg)).ar (RN33.out.gr hg)).ar (RN34.out.gr hg)).ar (RN35.out.gr hg)).ar (RN36.out.gr hg))
 simp only [zq1_,zq2_,zq3_,zq4_,lF,lG] at J
 clear Y T I hg hf HG0 RN33 RN34 RN35 RN36 lx30
 have lx24:=c0_ J;have fx24:=f0_ J
 have lx25:=c1_ J;have fx25:=f1_ J
 have r0:=Gr.refl vw5
 obtain ⟨d24_25,d25_24⟩:=J.out.ne 0 1 rfl rfl (by decide)
 go_wp2
 refine kO O ?_;clear O K
 clear r0 lx24 fx24 lx25 fx25 d24_25 d25_24
 refine fH ((((((((J.out).put2 0 0 rfl).put 0 2 _ rfl).put2 1 0 rfl).put 1 2 _ rfl).er 6).er 5).er 4) fun Wx8 I=>?_
 clear J
 refine wp_ret ?_
 try simp only [Exit.then,Exit.inBlock]
 have lx24:=c0_ I
 have lx25:=c1_ I
 have r0:=Gr.refl Wx8
 exact bodyPost_ret (v:=.tuple #[(.agg #[.bool (decide (l.num<0)),(.slice ao1 nn1 cc1),(.slice ao2 nn2 cc2)]),(.agg #[.bool (decide (h.num<0)),(.slice ao7 nn7 cc7),(.slice ao8 nn8 cc8)]),.int .i64 0]) (by simp [results,Tryz.results26,go_sem,lx24 _ r0,lx25 _ r0]) rfl ⟨⟨(.slice ao1 nn1 cc1),(.slice ao2 nn2 cc2),(.slice ao7 nn7 cc7),(.slice ao8 nn8 cc8),rfl,(I.out.rn 2 rfl),(I.out.rn 3 rfl),(I.out.rn 4 rfl),(I.out.rn 5 rfl)⟩,I.out.1⟩
theorem xE1 (a l h:Rat) (k N:Nat) (va1 va2:Value) (w:World) (ha:0≤a) (hN1:a<tq N*tq N) (hN:N≤40) (hl:rlo a k=l) (hh:rhi a k=h) (hk:k≤100) (hs:rz a≤300) (hsl:rz l≤200) (h1:Rn w va1 a.num.natAbs) (h2:Rn w va2 (a.den - 1)) :
  Calls Tryz.prog 26 #[.agg #[.bool (decide (a.num<0)),va1,va2],.int .i64 ((k:Nat):Int)] w fun e w'=>(∃ r1 r2 r3 r4:Value,e=.returned (.tuple #[(.agg #[.bool (decide (l.num<0)),r1,r2]),(.agg #[.bool (decide (h.num<0)),r3,r4]),.int .i64 0])∧Rn w' r1 l.num.natAbs∧Rn w' r2 (l.den - 1)∧Rn w' r3 h.num.natAbs∧Rn w' r4 (h.den - 1))∧Below w.heap.size w w':=by
 by_cases he:l*l=a
 ·obtain rfl:l=h:=by rw [← hh,← hl];rw [← hl] at he;exact (ql6 he).symm
  exact xk8 a l k N va1 va2 w (lh_ ha) (lh_ hN1) hN hk hs (lh_ hl) hsl (lh_ he) h1 h2
 ·exact xq4 a l k N _ h va1 va2 w (lh_ ha) (lh_ hN1) hN hk hs (lh_ hl) hsl (lh_ he) (lh_ rfl) (lh_ (by rw [← hh,← hl];rw [← hl] at he;exact (qo7 he).symm)) h1 h2
theorem qS8 (a z:Rat) (n:Int) (va1 va2:Value) (w:World) (hn:n<0) (hz:(0:Rat)=z) (h1:Rn w va1 a.num.natAbs) (h2:Rn w va2 (a.den - 1)) :
  Calls Tryz.prog 26 #[.agg #[.bool (decide (a.num<0)),va1,va2],.int .i64 n] w fun e w'=>(∃ r1 r2 r3 r4:Value,e=.returned (.tuple #[(.agg #[.bool (decide (z.num<0)),r1,r2]),(.agg #[.bool (decide (z.num<0)),r3,r4]),.int .i64 1])∧Rn w' r1 z.num.natAbs∧Rn w' r2 (z.den - 1)∧Rn w' r3 z.num.natAbs∧Rn w' r4 (z.den - 1))∧Below w.heap.size w w':=by
 subst hz
 refine (qZ0 a n va1 va2 w hn h1 h2).mono ?_
 rintro e w' ⟨rfl,hb⟩
 exact ⟨⟨_,_,_,_,rfl,Rn.zero _,Rn.zero _,Rn.zero _,Rn.zero _⟩,hb⟩
theorem qK8 (a z:Rat) (n:Int) (va1 va2:Value) (w:World) (hn:100<n) (hz:(0:Rat)=z) (h1:Rn w va1 a.num.natAbs) (h2:Rn w va2 (a.den - 1)) :
  Calls Tryz.prog 26 #[.agg #[.bool (decide (a.num<0)),va1,va2],.int .i64 n] w fun e w'=>(∃ r1 r2 r3 r4:Value,e=.returned (.tuple #[(.agg #[.bool (decide (z.num<0)),r1,r2]),(.agg #[.bool (decide (z.num<0)),r3,r4]),.int .i64 3])∧Rn w' r1 z.num.natAbs∧Rn w' r2 (z.den - 1)∧Rn w' r3 z.num.natAbs∧Rn w' r4 (z.den - 1))∧Below w.heap.size w w':=by
 subst hz
 refine (qR1 a n va1 va2 w hn h1 h2).mono ?_
 rintro e w' ⟨rfl,hb⟩
 exact ⟨⟨_,_,_,_,rfl,Rn.zero _,Rn.zero _,Rn.zero _,Rn.zero _⟩,hb⟩
theorem qN2 (a z:Rat) (k:Nat) (va1 va2:Value) (w:World) (hk:k≤100) (ha:a<0) (hz:(0:Rat)=z) (h1:Rn w va1 a.num.natAbs) (h2:Rn w va2 (a.den - 1)) :
  Calls Tryz.prog 26 #[.agg #[.bool (decide (a.num<0)),va1,va2],.int .i64 ((k:Nat):Int)] w fun e w'=>(∃ r1 r2 r3 r4:Value,e=.returned (.tuple #[(.agg #[.bool (decide (z.num<0)),r1,r2]),(.agg #[.bool (decide (z.num<0)),r3,r4]),.int .i64 1])∧Rn w' r1 z.num.natAbs∧Rn w' r2 (z.den - 1)∧Rn w' r3 z.num.natAbs∧Rn w' r4 (z.den - 1))∧Below w.heap.size w w':=by
 subst hz
 refine (qW4 a k va1 va2 w hk (lh_ ha) h1 h2).mono ?_
 rintro e w' ⟨rfl,hb⟩
 exact ⟨⟨_,_,_,_,rfl,Rn.zero _,Rn.zero _,Rn.zero _,Rn.zero _⟩,hb⟩
theorem qN4 (a z:Rat) (n:Int) (w:World) (hn:n<0) (hz:(0:Rat)=z) :
  Calls Tryz.prog 23 #[(Value.agg #[.int .u64 (lo a.num.natAbs),.string (bg a.num.natAbs),.bool (a.num<0),.int .u64 (lo (a.den - 1)),.string (bg (a.den - 1))]),.int .i64 n] w fun e w'=>e=.returned (.tuple #[(Value.agg #[.int .u64 (lo z.num.natAbs),.string (bg z.num.natAbs),.bool (z.num<0),.int .u64 (lo (z.den - 1)),.string (bg (z.den - 1))]),.int .i64 1])∧Below w.heap.size w w':=hz ▸ qB6 a n w hn
theorem qG7 (a z:Rat) (n:Int) (w:World) (hn:100<n) (hz:(0:Rat)=z) :
  Calls Tryz.prog 23 #[(Value.agg #[.int .u64 (lo a.num.natAbs),.string (bg a.num.natAbs),.bool (a.num<0),.int .u64 (lo (a.den - 1)),.string (bg (a.den - 1))]),.int .i64 n] w fun e w'=>e=.returned (.tuple #[(Value.agg #[.int .u64 (lo z.num.natAbs),.string (bg z.num.natAbs),.bool (z.num<0),.int .u64 (lo (z.den - 1)),.string (bg (z.den - 1))]),.int .i64 3])∧Below w.heap.size w w':=hz ▸ qw_ a n w hn
theorem qD_ (a z:Rat) (k:Nat) (w:World) (ha:a<0) (hk:k≤100) (hz:(0:Rat)=z) :
  Calls Tryz.prog 23 #[(Value.agg #[.int .u64 (lo a.num.natAbs),.string (bg a.num.natAbs),.bool (a.num<0),.int .u64 (lo (a.den - 1)),.string (bg (a.den - 1))]),.int .i64 ((k:Nat):Int)] w fun e w'=>e=.returned (.tuple #[(Value.agg #[.int .u64 (lo z.num.natAbs),.string (bg z.num.natAbs),.bool (z.num<0),.int .u64 (lo (z.den - 1)),.string (bg (z.den - 1))]),.int .i64 1])∧Below w.heap.size w w':=hz ▸ qq5 a k w ha hk
theorem qL9 (a z:Rat) (n:Int) (w:World) (hn:n<0) (hz:(0:Rat)=z) :
  Calls Tryz.prog 25 #[(Value.agg #[.int .u64 (lo a.num.natAbs),.string (bg a.num.natAbs),.bool (a.num<0),.int .u64 (lo (a.den - 1)),.string (bg (a.den - 1))]),.int .i64 n] w fun e w'=>e=.returned (.tuple #[(Value.agg #[.int .u64 (lo z.num.natAbs),.string (bg z.num.natAbs),.bool (z.num<0),.int .u64 (lo (z.den - 1)),.string (bg (z.den - 1))]),.int .i64 1])∧Below w.heap.size w w':=hz ▸ qB_ a n w hn
theorem qF5 (a z:Rat) (n:Int) (w:World) (hn:100<n) (hz:(0:Rat)=z) :
  Calls Tryz.prog 25 #[(Value.agg #[.int .u64 (lo a.num.natAbs),.string (bg a.num.natAbs),.bool (a.num<0),.int .u64 (lo (a.den - 1)),.string (bg (a.den - 1))]),.int .i64 n] w fun e w'=>e=.returned (.tuple #[(Value.agg #[.int .u64 (lo z.num.natAbs),.string (bg z.num.natAbs),.bool (z.num<0),.int .u64 (lo (z.den - 1)),.string (bg (z.den - 1))]),.int .i64 3])∧Below w.heap.size w w':=hz ▸ qx_ a n w hn
theorem qD6 (a z:Rat) (k:Nat) (w:World) (ha:a<0) (hk:k≤100) (hz:(0:Rat)=z) :
  Calls Tryz.prog 25 #[(Value.agg #[.int .u64 (lo a.num.natAbs),.string (bg a.num.natAbs),.bool (a.num<0),.int .u64 (lo (a.den - 1)),.string (bg (a.den - 1))]),.int .i64 ((k:Nat):Int)] w fun e w'=>e=.returned (.tuple #[(Value.agg #[.int .u64 (lo z.num.natAbs),.string (bg z.num.natAbs),.bool (z.num<0),.int .u64 (lo (z.den - 1)),.string (bg (z.den - 1))]),.int .i64 1])∧Below w.heap.size w w':=hz ▸ qy0 a k w ha hk
theorem xB4 {a:Rat} {k M:Nat} (hk:k≤100) (h:sz a≤M):rz (rlo a k)≤3*(M+9):=by
 have h1:=qd2 hk h
 have h2:=qd1 (rlo a k)
 have h3:=qc9 (rlo a k)
 have h4:=qE0 (Int.natAbs (rlo a k).num)
 have h5:=qE0 (rlo a k).den
 exact qv_ om om
theorem xw_ {a:Rat} {k M:Nat} (hk:k≤100) (h:sz a≤M):rz (rhi a k)≤3*(M+10):=by
 have h1:=qd8 hk h
 have h2:=qd1 (rhi a k)
 have h3:=qc9 (rhi a k)
 have h4:=qE0 (Int.natAbs (rhi a k).num)
 have h5:=qE0 (rhi a k).den
 exact qv_ om om
theorem xF6 (n d:Int) (h2:n≤9223372036854775807) (h3:0≤d):qv n d<tq 32*tq 32:=by
 have e:tq 32*tq 32=((18446744073709551616:Int):Rat):=by unfold tq;decide +kernel
 have hm:(0:Rat)<((max d 1:Int):Rat):=Rat.intCast_pos.2 om
 unfold qv
 rw [e,Rat.div_lt_iff hm,← Rat.intCast_mul,Rat.intCast_lt_intCast]
 have:(18446744073709551616:Int)*1≤18446744073709551616*max d 1:=Int.mul_le_mul_of_nonneg_left om (by decide)
 omega
end Go.Proofs.YtaflakcemiilaaaGreatDoor
