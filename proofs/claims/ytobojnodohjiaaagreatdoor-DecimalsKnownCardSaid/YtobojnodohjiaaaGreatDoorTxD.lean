
/- DecimalsTexts: the law's walk. -/
import Derived.Test.YtobojnodohjiaaaGreatDoorDecW
import Derived.Test.YtobojnodohjiaaaGreatDoorRDec3
set_option maxRecDepth 100000
set_option maxHeartbeats 16000000
set_option linter.unusedVariables false
set_option linter.unusedSimpArgs false
namespace Go.Proofs.YtobojnodohjiaaaGreatDoor
open Go.RowKit
attribute [local go_sem ↓] Go.wp_at_zero Go.wp_at_succ
attribute [local go_sem ↓] eq_nat eq_nat_zero eq_int qh7 qd0
attribute [local go_sem] Instr.field asAgg
theorem xL3 (bbxn:Bool) (vxn:Value) (kxn:Nat) (fxn:Nat→Nat) (mxn:Nat) (ixn:Int) (vxd:Value) (kxd:Nat) (fxd:Nat→Nat) (mxd:Nat) (a:Rat) (k:Nat) (way:Int) (s:ByteArray) (w:World) (HWxn:Hid (Wa w vxn kxn fxn)) (HFxn:Hid (∀ i,i<kxn→fxn i<4294967296)) (HVxn:Hid (vl fxn kxn=mxn)) (HAxn:Hid ((if bbxn then -((mxn:Nat):Int) else ((mxn:Nat):Int))=ixn)) (HWxd:Hid (Wa w vxd kxd fxd)) (HFxd:Hid (∀ i,i<kxd→fxd i<4294967296)) (HVxd:Hid (vl fxd kxd=mxd)) (HQx:Hid (mkRat ixn (mxd+1)=a)) (hkxn:kxn≤5) (hkxd:kxd≤5) (hk:k≤40) (hw1:1≤way) (hw2:way≤3) (HS:Hid (dtx (rnd way (a*(((10 ^ k:Nat):Int):Rat))) k=s)) (HT:Hid (Tab w)) :
  CB 70 #[.agg #[.bool bbxn,vxn,vxd],.int .i64 (((k:Nat):Int)),.int .i64 way] w (.bool true):=by
 obtain ⟨ao_xn,c_xn,rfl⟩:=HWxn.out.slice
 obtain ⟨ao_xd,c_xd,rfl⟩:=HWxd.out.slice
 have hm_xn:wl mxn≤5:=by rw [← HVxn.out];have:=qa2.2 (qe3 HFxn.out);omega
 have hm_xd:wl mxd≤5:=by rw [← HVxd.out];have:=qa2.2 (qe3 HFxd.out);omega
 have hi_x:wl (Int.natAbs ixn)≤5:=by rw [qo9 HAxn.out];exact hm_xn
 have hs_x:sz a≤6:=by rw [← HQx.out];exact qe6 hi_x hm_xd
 have hr_x:rz a≤18:=by rw [← HQx.out];exact qf_ hi_x hm_xd (by decide)
 go_enter Tryz.func70,Tryz.ntmps70
 have I:=lh_ (hp0 w)
 refine kSl fun K O=>?_;go_wp2
 refine kF_ O (al1_ I) fun Wx0 J=>?_;clear O K
 clear I;have I:=J;clear J
 refine wp_seq ?_
 have hd1:¬ (5<((kxn:Int))):=ok
 have hd2:¬ (5<((kxd:Int))):=ok
 have hd3:¬ (40<(((k:Nat):Int))):=ok
 have lx0:=kc0_ I
 refine qB5 fun K O T Y=>?_
 iterate 15 refine tk ?_
 iterate 2 refine sk ?_
 refine tk2_ ?_
 refine nz Y I O ?_;clear Y T I lx0 O K;intro vw1 I
 clear hd1 hd2 hd3
 refine wp_cond_false (by rfl) ?_
 refine wp_skip ?_
 show Code.wp _ _ _ _ _
 have HB:=HPb I
 obtain ⟨u1,HZ1⟩:=ex_ (rdd way a k)
 have su1:sz u1≤19:=by rw [← HZ1.out];exact qb4 om om
 have lx0:=kc0_ I
 refine ks8_ fun K O T Y=>?_
 refine tk ?_
 refine ck Tryz.call35 (fun w' hw=>qf9 bbxn kxn fxn mxn ixn kxd fxd mxd a ao_xn c_xn ao_xd c_xd w' (lh_ (HWxn.out.gr (Gr.trans HB.out hw))) HFxn HVxn HAxn (lh_ (HWxd.out.gr (Gr.trans HB.out hw))) HFxd HVxd HQx om om om om) ?_
 refine tk2_ ?_
 refine ck Tryz.call168 (fun w' hw=>qd9 way a k u1 _ HZ1.out om om om om) ?_
 refine tk3_ ?_
 refine nlS Y I fun vw2 J=>?_
 clear Y T I lx0 HB
 go_wp2
 refine kF_ O ((J.out).aL (vw2.heap.size)) fun Wx3 I=>?_;clear O K
 clear J
 generalize vw2.heap.size=gx2 at *
 have HB:=HPb I
 have lx0:=kc0_ I
 refine qy5 fun K O T Y=>?_
 refine tk ?_
 refine ck Tryz.call35 (fun w' hw=>qf9 bbxn kxn fxn mxn ixn kxd fxd mxd a ao_xn c_xn ao_xd c_xd w' (lh_ (HWxn.out.gr (Gr.trans HB.out hw))) HFxn HVxn HAxn (lh_ (HWxd.out.gr (Gr.trans HB.out hw))) HFxd HVxd HQx om om om om) ?_
 refine tk2_ ?_
 refine ck Tryz.call170 (fun w' hw=>xv9 way a k s _ (HS.out) om om om om (lh_ (HT.out.gr (Gr.trans HB.out hw)))) ?_
 iterate 5 refine tk ?_
 refine nz Y I O ?_;clear Y T I lx0 HB O K;intro vw3 I
 have HB:=HPb I
 have HZ2:Hid (rdd way a k=u1):=lh_ xM9
 have su2:rz u1≤154:=by have e:=HZ2.out;first|omega|(rw [← e];exact xJ7 om om)
 have lx0:=kc0_ I
 refine kS fun K O=>?_
 have HG0:Hid (Gr vw3 vw3):=lh_ (Gr.refl _)
 refine qK1 fun T Y=>?_
 refine tk ?_
 refine ce2 Tryz.call128 HG0 (fun w' hw=>(qm8 bbxn kxn fxn mxn ixn kxd fxd mxd a ao_xn c_xn ao_xd c_xd w' (lh_ (HWxn.out.gr (Gr.trans HB.out hw))) HFxn HVxn HAxn (lh_ (HWxd.out.gr (Gr.trans HB.out hw))) HFxd HVxd HQx om om om om)) ?_;clear HG0;intro vv3 HG0 HGS ao1 nn1 cc1 ao2 nn2 cc2 RN3 RN4
 replace HB:=lh_ (HB.out.trans (HGS.out.mono HB.out.size))
 clear HGS
 clear lx0;have lx0:=fun w' (h:Gr _ w')=>kc0_ I w' (HG0.out.trans h)
 refine tk2_ ?_
 refine ce2 Tryz.call181 HG0 (fun w' hw=>xJ3 way a k u1 _ _ _ HZ2.out om om om om (RN3.out.gr hw) (RN4.out.gr hw)) ?_;clear HG0;intro vv5 HG0 HGS ao3 nn3 cc3 ao4 nn4 cc4 RN5 RN6
 replace RN3:=lh_ (RN3.out.gr HGS.out)
 replace RN4:=lh_ (RN4.out.gr HGS.out)
 replace HB:=lh_ (HB.out.trans (HGS.out.mono HB.out.size))
 clear HGS
 clear lx0;have lx0:=fun w' (h:Gr _ w')=>kc0_ I w' (HG0.out.trans h)
 refine tk3_ ?_
 refine qa0 (Y.out _ _ ?_)
 intro vw4 hg
 simp only [puts,Act.put,lA,lB,lC,lD,lE,↓reduceIte,Nat.reduceEqDiff]
 have J:=lh_ (((((I.out.gr (HG0.out.trans hg)).ar (RN3.out.gr hg)).ar (RN4.out.gr hg)).ar (RN5.out.gr hg)).ar (RN6.out.gr hg))
 simp only [zq1_,zq2_,zq3_,zq4_,lF,lG] at J
 clear Y T I hg HG0 RN3 RN4 RN5 RN6 lx0 HB
 go_wp2
 refine kF_ O ((((J.out).aL (vw4.heap.size)).er 3).er 2) fun Wx5 I=>?_;clear O K
 clear J
 generalize vw4.heap.size=gx7 at *
 have HB:=HPb I
 have lx0:=kc0_ I
 refine kS fun K O=>?_
 have HG0:Hid (Gr Wx5 Wx5):=lh_ (Gr.refl _)
 refine qu9 fun T Y=>?_
 refine tk ?_
 refine ce2 Tryz.call128 HG0 (fun w' hw=>(qm8 bbxn kxn fxn mxn ixn kxd fxd mxd a ao_xn c_xn ao_xd c_xd w' (lh_ (HWxn.out.gr (Gr.trans HB.out hw))) HFxn HVxn HAxn (lh_ (HWxd.out.gr (Gr.trans HB.out hw))) HFxd HVxd HQx om om om om)) ?_;clear HG0;intro vv8 HG0 HGS ao5 nn5 cc5 ao6 nn6 cc6 RN8 RN9
 replace HB:=lh_ (HB.out.trans (HGS.out.mono HB.out.size))
 clear HGS
 clear lx0;have lx0:=fun w' (h:Gr _ w')=>kc0_ I w' (HG0.out.trans h)
 refine tk2_ ?_
 refine ck Tryz.call182 (fun w' hw=>xz_ way a k s _ _ _ (HS.out) om om om om (RN8.out.gr hw) (RN9.out.gr hw)) ?_
 iterate 5 refine tk ?_
 refine nzR Y O (fun w2 hg=>(((((I.out.gr (HG0.out.trans hg)).ar (RN8.out.gr hg)).ar (RN9.out.gr hg)).er 6).er 5).er 0) ?_;clear Y T I HG0 RN8 RN9 lx0 HB O K;intro Wx6 I
 have HB:=HPb I
 have hd4:(s.toList == s.toList)=true:=by simp
 have lx2:=kc0_ I
 have lx7:=kc3_ I
 refine xl_ fun K O T Y=>?_
 refine tk2_ ?_
 refine ck Tryz.call66 (fun w' hw=>qp7 u1 _ _ _ om om (I.out.r 1 rfl hw) (I.out.r 2 rfl hw) (lh_ (HT.out.gr (Gr.trans HB.out hw)))) ?_
 iterate 16 refine tk ?_
 refine ck Tryz.call64 (fun w' hw=>worksd_any _ (lh_ (HT.out.gr (Gr.trans HB.out hw)))) ?_
 refine tk2_ ?_
 refine nzR Y O (fun w2 hg=>((((I.out.gr hg).er 3).er 2).er 1).er 0) ?_;clear Y T I lx2 lx7 HB O K;intro Wx7 I
 clear hd4
 refine wp_ret ?_
 try simp only [Exit.then,Exit.inBlock]
 exact bR ⟨rfl,I.out.1⟩ qW2
theorem xC9 (bbxn:Bool) (vxn:Value) (kxn:Nat) (fxn:Nat→Nat) (mxn:Nat) (ixn:Int) (vxd:Value) (kxd:Nat) (fxd:Nat→Nat) (mxd:Nat) (a:Rat) (n:Int) (way:Int) (w:World) (HWxn:Hid (Wa w vxn kxn fxn)) (HFxn:Hid (∀ i,i<kxn→fxn i<4294967296)) (HVxn:Hid (vl fxn kxn=mxn)) (HAxn:Hid ((if bbxn then -((mxn:Nat):Int) else ((mxn:Nat):Int))=ixn)) (HWxd:Hid (Wa w vxd kxd fxd)) (HFxd:Hid (∀ i,i<kxd→fxd i<4294967296)) (HVxd:Hid (vl fxd kxd=mxd)) (HQx:Hid (mkRat ixn (mxd+1)=a)) (hkxn:kxn≤5) (hkxd:kxd≤5) (hn1:40<n) (hn2:n≤100) (HT:Hid (Tab w)) :
  CB 70 #[.agg #[.bool bbxn,vxn,vxd],.int .i64 n,.int .i64 way] w (.bool true):=by
 obtain ⟨ao_xn,c_xn,rfl⟩:=HWxn.out.slice
 obtain ⟨ao_xd,c_xd,rfl⟩:=HWxd.out.slice
 have hm_xn:wl mxn≤5:=by rw [← HVxn.out];have:=qa2.2 (qe3 HFxn.out);omega
 have hm_xd:wl mxd≤5:=by rw [← HVxd.out];have:=qa2.2 (qe3 HFxd.out);omega
 have hi_x:wl (Int.natAbs ixn)≤5:=by rw [qo9 HAxn.out];exact hm_xn
 have hs_x:sz a≤6:=by rw [← HQx.out];exact qe6 hi_x hm_xd
 have hr_x:rz a≤18:=by rw [← HQx.out];exact qf_ hi_x hm_xd (by decide)
 go_enter Tryz.func70,Tryz.ntmps70
 have I:=lh_ (hp0 w)
 refine kSl fun K O=>?_;go_wp2
 refine kF_ O (al1_ I) fun Wx0 J=>?_;clear O K
 clear I;have I:=J;clear J
 refine wp_seq ?_
 have hd1:¬ (5<((kxn:Int))):=ok
 have hd2:¬ (5<((kxd:Int))):=ok
 have hd3:40<n:=ok
 have hd4:n≤100:=ok
 have lx0:=kc0_ I
 refine qB5 fun K O T Y=>?_
 iterate 19 refine tk ?_
 refine nz Y I O ?_;clear Y T I lx0 O K;intro vw1 I
 clear hd1 hd2 hd3 hd4
 refine wp_cond_true (by rfl) ?_
 have HB:=HPb I
 refine ks2_ fun K O T Y=>?_
 refine ck Tryz.call64 (fun w' hw=>worksd_any _ (lh_ (HT.out.gr (Gr.trans HB.out hw)))) ?_
 refine tk ?_
 refine nz Y I O ?_;clear Y T I HB O K;intro vw2 I
 refine wp_ret ?_
 try simp only [Exit.then,Exit.inBlock]
 exact bR ⟨rfl,I.out.1⟩ qW2
theorem xC8 (bbxn:Bool) (vxn:Value) (kxn:Nat) (fxn:Nat→Nat) (mxn:Nat) (ixn:Int) (vxd:Value) (kxd:Nat) (fxd:Nat→Nat) (mxd:Nat) (a:Rat) (n:Int) (way:Int) (c:Int) (z0:Rat) (w:World) (HWxn:Hid (Wa w vxn kxn fxn)) (HFxn:Hid (∀ i,i<kxn→fxn i<4294967296)) (HVxn:Hid (vl fxn kxn=mxn)) (HAxn:Hid ((if bbxn then -((mxn:Nat):Int) else ((mxn:Nat):Int))=ixn)) (HWxd:Hid (Wa w vxd kxd fxd)) (HFxd:Hid (∀ i,i<kxd→fxd i<4294967296)) (HVxd:Hid (vl fxd kxd=mxd)) (HQx:Hid (mkRat ixn (mxd+1)=a)) (hkxn:kxn≤5) (hkxd:kxd≤5) (hn1:100<n) (HC:Hid (qh5 n way=c)) (hc0:¬ c=0) (HZ0:Hid ((0:Rat)=z0)) (hz0:sz z0≤1) (hrz:rz z0≤1) (HT:Hid (Tab w)) :
  CB 70 #[.agg #[.bool bbxn,vxn,vxd],.int .i64 n,.int .i64 way] w (.bool true):=by
 obtain ⟨ao_xn,c_xn,rfl⟩:=HWxn.out.slice
 obtain ⟨ao_xd,c_xd,rfl⟩:=HWxd.out.slice
 have hm_xn:wl mxn≤5:=by rw [← HVxn.out];have:=qa2.2 (qe3 HFxn.out);omega
 have hm_xd:wl mxd≤5:=by rw [← HVxd.out];have:=qa2.2 (qe3 HFxd.out);omega
 have hi_x:wl (Int.natAbs ixn)≤5:=by rw [qo9 HAxn.out];exact hm_xn
 have hs_x:sz a≤6:=by rw [← HQx.out];exact qe6 hi_x hm_xd
 have hr_x:rz a≤18:=by rw [← HQx.out];exact qf_ hi_x hm_xd (by decide)
 go_enter Tryz.func70,Tryz.ntmps70
 have I:=lh_ (hp0 w)
 refine kSl fun K O=>?_;go_wp2
 refine kF_ O (al1_ I) fun Wx0 J=>?_;clear O K
 clear I;have I:=J;clear J
 refine wp_seq ?_
 have hd1:¬ (5<((kxn:Int))):=ok
 have hd2:¬ (5<((kxd:Int))):=ok
 have hd3:40<n:=ok
 have hd4:¬ (n≤100):=ok
 have lx0:=kc0_ I
 refine qB5 fun K O T Y=>?_
 iterate 19 refine tk ?_
 refine nz Y I O ?_;clear Y T I lx0 O K;intro vw1 I
 clear hd1 hd2 hd3 hd4
 refine wp_cond_false (by rfl) ?_
 refine wp_skip ?_
 show Code.wp _ _ _ _ _
 have HB:=HPb I
 have lx0:=kc0_ I
 refine ks8_ fun K O T Y=>?_
 refine tk ?_
 refine ck Tryz.call35 (fun w' hw=>qf9 bbxn kxn fxn mxn ixn kxd fxd mxd a ao_xn c_xn ao_xd c_xd w' (lh_ (HWxn.out.gr (Gr.trans HB.out hw))) HFxn HVxn HAxn (lh_ (HWxd.out.gr (Gr.trans HB.out hw))) HFxd HVxd HQx om om om om) ?_
 refine tk2_ ?_
 refine ck Tryz.call168 (fun w' hw=>qw0 a z0 n way c _ (HC.out) hc0 HZ0.out om) ?_
 refine tk3_ ?_
 refine nlS Y I fun vw2 J=>?_
 clear Y T I lx0 HB
 go_wp2
 refine kF_ O ((J.out).aL (vw2.heap.size)) fun Wx3 I=>?_;clear O K
 clear J
 generalize vw2.heap.size=gx2 at *
 have HB:=HPb I
 have lx0:=kc0_ I
 refine qy5 fun K O T Y=>?_
 refine tk ?_
 refine ck Tryz.call35 (fun w' hw=>qf9 bbxn kxn fxn mxn ixn kxd fxd mxd a ao_xn c_xn ao_xd c_xd w' (lh_ (HWxn.out.gr (Gr.trans HB.out hw))) HFxn HVxn HAxn (lh_ (HWxd.out.gr (Gr.trans HB.out hw))) HFxd HVxd HQx om om om om) ?_
 refine tk2_ ?_
 refine ck Tryz.call170 (fun w' hw=>qp3 a n way c _ (HC.out) hc0 om) ?_
 iterate 5 refine tk ?_
 refine nz Y I O ?_;clear Y T I lx0 HB O K;intro vw3 I
 have HB:=HPb I
 have lx0:=kc0_ I
 refine kS fun K O=>?_
 have HG0:Hid (Gr vw3 vw3):=lh_ (Gr.refl _)
 refine qK1 fun T Y=>?_
 refine tk ?_
 refine ce2 Tryz.call128 HG0 (fun w' hw=>(qm8 bbxn kxn fxn mxn ixn kxd fxd mxd a ao_xn c_xn ao_xd c_xd w' (lh_ (HWxn.out.gr (Gr.trans HB.out hw))) HFxn HVxn HAxn (lh_ (HWxd.out.gr (Gr.trans HB.out hw))) HFxd HVxd HQx om om om om)) ?_;clear HG0;intro vv3 HG0 HGS ao1 nn1 cc1 ao2 nn2 cc2 RN3 RN4
 replace HB:=lh_ (HB.out.trans (HGS.out.mono HB.out.size))
 clear HGS
 clear lx0;have lx0:=fun w' (h:Gr _ w')=>kc0_ I w' (HG0.out.trans h)
 refine tk2_ ?_
 refine ce2 Tryz.call181 HG0 (fun w' hw=>qx0 a z0 n way c _ _ _ (HC.out) hc0 HZ0.out (RN3.out.gr hw) (RN4.out.gr hw)) ?_;clear HG0;intro vv5 HG0 HGS ao3 nn3 cc3 ao4 nn4 cc4 RN5 RN6
 replace RN3:=lh_ (RN3.out.gr HGS.out)
 replace RN4:=lh_ (RN4.out.gr HGS.out)
 replace HB:=lh_ (HB.out.trans (HGS.out.mono HB.out.size))
 clear HGS
 clear lx0;have lx0:=fun w' (h:Gr _ w')=>kc0_ I w' (HG0.out.trans h)
 refine tk3_ ?_
 refine qa0 (Y.out _ _ ?_)
 intro vw4 hg
 simp only [puts,Act.put,lA,lB,lC,lD,lE,↓reduceIte,Nat.reduceEqDiff]
 have J:=lh_ (((((I.out.gr (HG0.out.trans hg)).ar (RN3.out.gr hg)).ar (RN4.out.gr hg)).ar (RN5.out.gr hg)).ar (RN6.out.gr hg))
 simp only [zq1_,zq2_,zq3_,zq4_,lF,lG] at J
 clear Y T I hg HG0 RN3 RN4 RN5 RN6 lx0 HB
 go_wp2
 refine kF_ O ((((J.out).aL (vw4.heap.size)).er 3).er 2) fun Wx5 I=>?_;clear O K
 clear J
 generalize vw4.heap.size=gx7 at *
 have HB:=HPb I
 have lx0:=kc0_ I
 refine kS fun K O=>?_
 have HG0:Hid (Gr Wx5 Wx5):=lh_ (Gr.refl _)
 refine qu9 fun T Y=>?_
 refine tk ?_
 refine ce2 Tryz.call128 HG0 (fun w' hw=>(qm8 bbxn kxn fxn mxn ixn kxd fxd mxd a ao_xn c_xn ao_xd c_xd w' (lh_ (HWxn.out.gr (Gr.trans HB.out hw))) HFxn HVxn HAxn (lh_ (HWxd.out.gr (Gr.trans HB.out hw))) HFxd HVxd HQx om om om om)) ?_;clear HG0;intro vv8 HG0 HGS ao5 nn5 cc5 ao6 nn6 cc6 RN8 RN9
 replace HB:=lh_ (HB.out.trans (HGS.out.mono HB.out.size))
 clear HGS
 clear lx0;have lx0:=fun w' (h:Gr _ w')=>kc0_ I w' (HG0.out.trans h)
 refine tk2_ ?_
 refine ck Tryz.call182 (fun w' hw=>qG1 a n way c _ _ _ (HC.out) hc0 (RN8.out.gr hw) (RN9.out.gr hw)) ?_
 iterate 5 refine tk ?_
 refine nzR Y O (fun w2 hg=>(((((I.out.gr (HG0.out.trans hg)).ar (RN8.out.gr hg)).ar (RN9.out.gr hg)).er 6).er 5).er 0) ?_;clear Y T I HG0 RN8 RN9 lx0 HB O K;intro Wx6 I
 have HB:=HPb I
 have lx2:=kc0_ I
 have lx7:=kc3_ I
 refine xl_ fun K O T Y=>?_
 refine tk2_ ?_
 refine ck Tryz.call66 (fun w' hw=>qp7 z0 _ _ _ om om (I.out.r 1 rfl hw) (I.out.r 2 rfl hw) (lh_ (HT.out.gr (Gr.trans HB.out hw)))) ?_
 iterate 16 refine tk ?_
 refine ck Tryz.call64 (fun w' hw=>worksd_any _ (lh_ (HT.out.gr (Gr.trans HB.out hw)))) ?_
 refine tk2_ ?_
 refine nzR Y O (fun w2 hg=>((((I.out.gr hg).er 3).er 2).er 1).er 0) ?_;clear Y T I lx2 lx7 HB O K;intro Wx7 I
 refine wp_ret ?_
 try simp only [Exit.then,Exit.inBlock]
 exact bR ⟨rfl,I.out.1⟩ qW2
theorem xC7 (bbxn:Bool) (vxn:Value) (kxn:Nat) (fxn:Nat→Nat) (mxn:Nat) (ixn:Int) (vxd:Value) (kxd:Nat) (fxd:Nat→Nat) (mxd:Nat) (a:Rat) (n:Int) (way:Int) (c:Int) (z0:Rat) (w:World) (HWxn:Hid (Wa w vxn kxn fxn)) (HFxn:Hid (∀ i,i<kxn→fxn i<4294967296)) (HVxn:Hid (vl fxn kxn=mxn)) (HAxn:Hid ((if bbxn then -((mxn:Nat):Int) else ((mxn:Nat):Int))=ixn)) (HWxd:Hid (Wa w vxd kxd fxd)) (HFxd:Hid (∀ i,i<kxd→fxd i<4294967296)) (HVxd:Hid (vl fxd kxd=mxd)) (HQx:Hid (mkRat ixn (mxd+1)=a)) (hkxn:kxn≤5) (hkxd:kxd≤5) (hn1:n≤40) (HC:Hid (qh5 n way=c)) (hc0:¬ c=0) (HZ0:Hid ((0:Rat)=z0)) (hz0:sz z0≤1) (hrz:rz z0≤1) (HT:Hid (Tab w)) :
  CB 70 #[.agg #[.bool bbxn,vxn,vxd],.int .i64 n,.int .i64 way] w (.bool true):=by
 obtain ⟨ao_xn,c_xn,rfl⟩:=HWxn.out.slice
 obtain ⟨ao_xd,c_xd,rfl⟩:=HWxd.out.slice
 have hm_xn:wl mxn≤5:=by rw [← HVxn.out];have:=qa2.2 (qe3 HFxn.out);omega
 have hm_xd:wl mxd≤5:=by rw [← HVxd.out];have:=qa2.2 (qe3 HFxd.out);omega
 have hi_x:wl (Int.natAbs ixn)≤5:=by rw [qo9 HAxn.out];exact hm_xn
 have hs_x:sz a≤6:=by rw [← HQx.out];exact qe6 hi_x hm_xd
 have hr_x:rz a≤18:=by rw [← HQx.out];exact qf_ hi_x hm_xd (by decide)
 go_enter Tryz.func70,Tryz.ntmps70
 have I:=lh_ (hp0 w)
 refine kSl fun K O=>?_;go_wp2
 refine kF_ O (al1_ I) fun Wx0 J=>?_;clear O K
 clear I;have I:=J;clear J
 refine wp_seq ?_
 have hd1:¬ (5<((kxn:Int))):=ok
 have hd2:¬ (5<((kxd:Int))):=ok
 have hd3:¬ (40<n):=ok
 have lx0:=kc0_ I
 refine qB5 fun K O T Y=>?_
 iterate 15 refine tk ?_
 iterate 2 refine sk ?_
 refine tk2_ ?_
 refine nz Y I O ?_;clear Y T I lx0 O K;intro vw1 I
 clear hd1 hd2 hd3
 refine wp_cond_false (by rfl) ?_
 refine wp_skip ?_
 show Code.wp _ _ _ _ _
 have HB:=HPb I
 have lx0:=kc0_ I
 refine ks8_ fun K O T Y=>?_
 refine tk ?_
 refine ck Tryz.call35 (fun w' hw=>qf9 bbxn kxn fxn mxn ixn kxd fxd mxd a ao_xn c_xn ao_xd c_xd w' (lh_ (HWxn.out.gr (Gr.trans HB.out hw))) HFxn HVxn HAxn (lh_ (HWxd.out.gr (Gr.trans HB.out hw))) HFxd HVxd HQx om om om om) ?_
 refine tk2_ ?_
 refine ck Tryz.call168 (fun w' hw=>qw0 a z0 n way c _ (HC.out) hc0 HZ0.out om) ?_
 refine tk3_ ?_
 refine nlS Y I fun vw2 J=>?_
 clear Y T I lx0 HB
 go_wp2
 refine kF_ O ((J.out).aL (vw2.heap.size)) fun Wx3 I=>?_;clear O K
 clear J
 generalize vw2.heap.size=gx2 at *
 have HB:=HPb I
 have lx0:=kc0_ I
 refine qy5 fun K O T Y=>?_
 refine tk ?_
 refine ck Tryz.call35 (fun w' hw=>qf9 bbxn kxn fxn mxn ixn kxd fxd mxd a ao_xn c_xn ao_xd c_xd w' (lh_ (HWxn.out.gr (Gr.trans HB.out hw))) HFxn HVxn HAxn (lh_ (HWxd.out.gr (Gr.trans HB.out hw))) HFxd HVxd HQx om om om om) ?_
 refine tk2_ ?_
 refine ck Tryz.call170 (fun w' hw=>qp3 a n way c _ (HC.out) hc0 om) ?_
 iterate 5 refine tk ?_
 refine nz Y I O ?_;clear Y T I lx0 HB O K;intro vw3 I
 have HB:=HPb I
 have lx0:=kc0_ I
 refine kS fun K O=>?_
 have HG0:Hid (Gr vw3 vw3):=lh_ (Gr.refl _)
 refine qK1 fun T Y=>?_
 refine tk ?_
 refine ce2 Tryz.call128 HG0 (fun w' hw=>(qm8 bbxn kxn fxn mxn ixn kxd fxd mxd a ao_xn c_xn ao_xd c_xd w' (lh_ (HWxn.out.gr (Gr.trans HB.out hw))) HFxn HVxn HAxn (lh_ (HWxd.out.gr (Gr.trans HB.out hw))) HFxd HVxd HQx om om om om)) ?_;clear HG0;intro vv3 HG0 HGS ao1 nn1 cc1 ao2 nn2 cc2 RN3 RN4
 replace HB:=lh_ (HB.out.trans (HGS.out.mono HB.out.size))
 clear HGS
 clear lx0;have lx0:=fun w' (h:Gr _ w')=>kc0_ I w' (HG0.out.trans h)
 refine tk2_ ?_
 refine ce2 Tryz.call181 HG0 (fun w' hw=>qx0 a z0 n way c _ _ _ (HC.out) hc0 HZ0.out (RN3.out.gr hw) (RN4.out.gr hw)) ?_;clear HG0;intro vv5 HG0 HGS ao3 nn3 cc3 ao4 nn4 cc4 RN5 RN6
 replace RN3:=lh_ (RN3.out.gr HGS.out)
 replace RN4:=lh_ (RN4.out.gr HGS.out)
 replace HB:=lh_ (HB.out.trans (HGS.out.mono HB.out.size))
 clear HGS
 clear lx0;have lx0:=fun w' (h:Gr _ w')=>kc0_ I w' (HG0.out.trans h)
 refine tk3_ ?_
 refine qa0 (Y.out _ _ ?_)
 intro vw4 hg
 simp only [puts,Act.put,lA,lB,lC,lD,lE,↓reduceIte,Nat.reduceEqDiff]
 have J:=lh_ (((((I.out.gr (HG0.out.trans hg)).ar (RN3.out.gr hg)).ar (RN4.out.gr hg)).ar (RN5.out.gr hg)).ar (RN6.out.gr hg))
 simp only [zq1_,zq2_,zq3_,zq4_,lF,lG] at J
 clear Y T I hg HG0 RN3 RN4 RN5 RN6 lx0 HB
 go_wp2
 refine kF_ O ((((J.out).aL (vw4.heap.size)).er 3).er 2) fun Wx5 I=>?_;clear O K
 clear J
 generalize vw4.heap.size=gx7 at *
 have HB:=HPb I
 have lx0:=kc0_ I
 refine kS fun K O=>?_
 have HG0:Hid (Gr Wx5 Wx5):=lh_ (Gr.refl _)
 refine qu9 fun T Y=>?_
 refine tk ?_
 refine ce2 Tryz.call128 HG0 (fun w' hw=>(qm8 bbxn kxn fxn mxn ixn kxd fxd mxd a ao_xn c_xn ao_xd c_xd w' (lh_ (HWxn.out.gr (Gr.trans HB.out hw))) HFxn HVxn HAxn (lh_ (HWxd.out.gr (Gr.trans HB.out hw))) HFxd HVxd HQx om om om om)) ?_;clear HG0;intro vv8 HG0 HGS ao5 nn5 cc5 ao6 nn6 cc6 RN8 RN9
 replace HB:=lh_ (HB.out.trans (HGS.out.mono HB.out.size))
 clear HGS
 clear lx0;have lx0:=fun w' (h:Gr _ w')=>kc0_ I w' (HG0.out.trans h)
 refine tk2_ ?_
 refine ck Tryz.call182 (fun w' hw=>qG1 a n way c _ _ _ (HC.out) hc0 (RN8.out.gr hw) (RN9.out.gr hw)) ?_
 iterate 5 refine tk ?_
 refine nzR Y O (fun w2 hg=>(((((I.out.gr (HG0.out.trans hg)).ar (RN8.out.gr hg)).ar (RN9.out.gr hg)).er 6).er 5).er 0) ?_;clear Y T I HG0 RN8 RN9 lx0 HB O K;intro Wx6 I
 have HB:=HPb I
 have lx2:=kc0_ I
 have lx7:=kc3_ I
 refine xl_ fun K O T Y=>?_
 refine tk2_ ?_
 refine ck Tryz.call66 (fun w' hw=>qp7 z0 _ _ _ om om (I.out.r 1 rfl hw) (I.out.r 2 rfl hw) (lh_ (HT.out.gr (Gr.trans HB.out hw)))) ?_
 iterate 16 refine tk ?_
 refine ck Tryz.call64 (fun w' hw=>worksd_any _ (lh_ (HT.out.gr (Gr.trans HB.out hw)))) ?_
 refine tk2_ ?_
 refine nzR Y O (fun w2 hg=>((((I.out.gr hg).er 3).er 2).er 1).er 0) ?_;clear Y T I lx2 lx7 HB O K;intro Wx7 I
 refine wp_ret ?_
 try simp only [Exit.then,Exit.inBlock]
 exact bR ⟨rfl,I.out.1⟩ qW2
theorem xq2 (bbxn:Bool) (vxn:Value) (kxn:Nat) (fxn:Nat→Nat) (mxn:Nat) (ixn:Int) (vxd:Value) (kxd:Nat) (fxd:Nat→Nat) (mxd:Nat) (a:Rat) (n:Int) (way:Int) (w:World) (HWxn:Hid (Wa w vxn kxn fxn)) (HFxn:Hid (∀ i,i<kxn→fxn i<4294967296)) (HVxn:Hid (vl fxn kxn=mxn)) (HAxn:Hid ((if bbxn then -((mxn:Nat):Int) else ((mxn:Nat):Int))=ixn)) (HWxd:Hid (Wa w vxd kxd fxd)) (HFxd:Hid (∀ i,i<kxd→fxd i<4294967296)) (HVxd:Hid (vl fxd kxd=mxd)) (HQx:Hid (mkRat ixn (mxd+1)=a))  (hkxn:5<kxn) (HT:Hid (Tab w)) :
  CB 70 #[.agg #[.bool bbxn,vxn,vxd],.int .i64 n,.int .i64 way] w (.bool true):=by
 obtain ⟨ao_xn,c_xn,rfl⟩:=HWxn.out.slice
 obtain ⟨ao_xd,c_xd,rfl⟩:=HWxd.out.slice
 go_enter Tryz.func70,Tryz.ntmps70
 have I:=lh_ (hp0 w)
 refine kSl fun K O=>?_;go_wp2
 refine kF_ O (al1_ I) fun Wx0 J=>?_;clear O K
 clear I;have I:=J;clear J
 refine wp_seq ?_
 have hd1:5<((kxn:Int)):=ok
 have lx0:=kc0_ I
 refine qB5 fun K O T Y=>?_
 iterate 6 refine tk ?_
 iterate 4 refine sk ?_
 refine tk2_ ?_
 iterate 6 refine sk ?_
 refine tk ?_
 refine nz Y I O ?_;clear Y T I lx0 O K;intro vw1 I
 clear hd1
 refine wp_cond_true (by rfl) ?_
 have HB:=HPb I
 refine ks2_ fun K O T Y=>?_
 refine ck Tryz.call64 (fun w' hw=>worksd_any _ (lh_ (HT.out.gr (Gr.trans HB.out hw)))) ?_
 refine tk ?_
 refine nz Y I O ?_;clear Y T I HB O K;intro vw2 I
 refine wp_ret ?_
 try simp only [Exit.then,Exit.inBlock]
 exact bR ⟨rfl,I.out.1⟩ qW2
theorem xq3 (bbxn:Bool) (vxn:Value) (kxn:Nat) (fxn:Nat→Nat) (mxn:Nat) (ixn:Int) (vxd:Value) (kxd:Nat) (fxd:Nat→Nat) (mxd:Nat) (a:Rat) (n:Int) (way:Int) (w:World) (HWxn:Hid (Wa w vxn kxn fxn)) (HFxn:Hid (∀ i,i<kxn→fxn i<4294967296)) (HVxn:Hid (vl fxn kxn=mxn)) (HAxn:Hid ((if bbxn then -((mxn:Nat):Int) else ((mxn:Nat):Int))=ixn)) (HWxd:Hid (Wa w vxd kxd fxd)) (HFxd:Hid (∀ i,i<kxd→fxd i<4294967296)) (HVxd:Hid (vl fxd kxd=mxd)) (HQx:Hid (mkRat ixn (mxd+1)=a)) (hkxn:kxn≤5) (hkxd:5<kxd) (HT:Hid (Tab w)) :
  CB 70 #[.agg #[.bool bbxn,vxn,vxd],.int .i64 n,.int .i64 way] w (.bool true):=by
 obtain ⟨ao_xn,c_xn,rfl⟩:=HWxn.out.slice
 obtain ⟨ao_xd,c_xd,rfl⟩:=HWxd.out.slice
 go_enter Tryz.func70,Tryz.ntmps70
 have I:=lh_ (hp0 w)
 refine kSl fun K O=>?_;go_wp2
 refine kF_ O (al1_ I) fun Wx0 J=>?_;clear O K
 clear I;have I:=J;clear J
 refine wp_seq ?_
 have hd1:¬ (5<((kxn:Int))):=ok
 have hd2:5<((kxd:Int)):=ok
 have lx0:=kc0_ I
 refine qB5 fun K O T Y=>?_
 iterate 12 refine tk ?_
 iterate 6 refine sk ?_
 refine tk ?_
 refine nz Y I O ?_;clear Y T I lx0 O K;intro vw1 I
 clear hd1 hd2
 refine wp_cond_true (by rfl) ?_
 have HB:=HPb I
 refine ks2_ fun K O T Y=>?_
 refine ck Tryz.call64 (fun w' hw=>worksd_any _ (lh_ (HT.out.gr (Gr.trans HB.out hw)))) ?_
 refine tk ?_
 refine nz Y I O ?_;clear Y T I HB O K;intro vw2 I
 refine wp_ret ?_
 try simp only [Exit.then,Exit.inBlock]
 exact bR ⟨rfl,I.out.1⟩ qW2
theorem texts_law (bbxn:Bool) (vxn:Value) (kxn:Nat) (fxn:Nat→Nat) (vxd:Value) (kxd:Nat) (fxd:Nat→Nat) (n way:Int) (w:World) (HWxn:Hid (Wa w vxn kxn fxn)) (HFxn:Hid (∀ i,i<kxn→fxn i<4294967296)) (HWxd:Hid (Wa w vxd kxd fxd)) (HFxd:Hid (∀ i,i<kxd→fxd i<4294967296))  (HT:Hid (Tab w)) :
  CB 70 #[.agg #[.bool bbxn,vxn,vxd],.int .i64 n,.int .i64 way] w (.bool true):=by
 obtain ⟨ixn,HAxn⟩:=ex_ ((if bbxn then -((vl fxn kxn:Nat):Int) else ((vl fxn kxn:Nat):Int)))
 obtain ⟨a,HQx⟩:=ex_ (mkRat ixn (vl fxd kxd+1))
 by_cases hkxn:kxn≤5
 ·skip
  by_cases hkxd:kxd≤5
  ·skip
   by_cases c1:100<n
   ·exact xC8 bbxn vxn kxn fxn _ ixn vxd kxd fxd _ a n way _ _ w HWxn HFxn (lh_ rfl) HAxn HWxd HFxd (lh_ rfl) HQx hkxn hkxd c1 (lh_ rfl) (by unfold qh5;rw [if_neg om,if_pos c1];decide) (lh_ rfl) (qc9 (qa2.2 (by decide +kernel)) (qa2.2 (by decide +kernel))) (qo3 (qc0.2 (by decide +kernel)) (qc0.2 (by decide +kernel))) HT
   by_cases c2:40<n
   ·exact xC9 bbxn vxn kxn fxn _ ixn vxd kxd fxd _ a n way w HWxn HFxn (lh_ rfl) HAxn HWxd HFxd (lh_ rfl) HQx hkxn hkxd c2 om HT
   by_cases c3:qh5 n way=0
   ·have c4:0≤n∧1≤way∧way≤3:=by
     unfold qh5 at c3
     by_cases d1:n<0
     ·rw [if_pos d1] at c3;exact absurd c3 (by decide)
     rw [if_neg d1,if_neg c1] at c3
     by_cases d2:way<1∨3<way
     ·rw [if_pos d2] at c3;exact absurd c3 (by decide)
     omega
    obtain ⟨k,rfl⟩:∃ k:Nat,n=(k:Int):=⟨n.toNat,by omega⟩
    exact xL3 bbxn vxn kxn fxn _ ixn vxd kxd fxd _ a k way _ w HWxn HFxn (lh_ rfl) HAxn HWxd HFxd (lh_ rfl) HQx hkxn hkxd om c4.2.1 c4.2.2 (lh_ rfl) HT
   exact xC7 bbxn vxn kxn fxn _ ixn vxd kxd fxd _ a n way _ _ w HWxn HFxn (lh_ rfl) HAxn HWxd HFxd (lh_ rfl) HQx hkxn hkxd om (lh_ rfl) c3 (lh_ rfl) (qc9 (qa2.2 (by decide +kernel)) (qa2.2 (by decide +kernel))) (qo3 (qc0.2 (by decide +kernel)) (qc0.2 (by decide +kernel))) HT
  exact xq3 bbxn vxn kxn fxn _ ixn vxd kxd fxd _ a n way w HWxn HFxn (lh_ rfl) HAxn HWxd HFxd (lh_ rfl) HQx  hkxn om HT
 exact xq2 bbxn vxn kxn fxn _ ixn vxd kxd fxd _ a n way w HWxn HFxn (lh_ rfl) HAxn HWxd HFxd (lh_ rfl) HQx   om HT
end Go.Proofs.YtobojnodohjiaaaGreatDoor
