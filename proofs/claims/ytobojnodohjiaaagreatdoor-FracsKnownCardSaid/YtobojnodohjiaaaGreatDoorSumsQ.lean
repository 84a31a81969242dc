
/- FracsSums: the law's walk. -/
import Derived.Test.YtobojnodohjiaaaGreatDoorWorksQ
import Derived.Test.YtobojnodohjiaaaGreatDoorQFew2
import Derived.Test.YtobojnodohjiaaaGreatDoorRefV2
set_option maxRecDepth 100000
set_option maxHeartbeats 16000000
set_option linter.unusedVariables false
set_option linter.unusedSimpArgs false
namespace Go.Proofs.YtobojnodohjiaaaGreatDoor
open Go.RowKit
attribute [local go_sem ↓] Go.wp_at_zero Go.wp_at_succ
attribute [local go_sem ↓] eq_nat eq_nat_zero eq_int eq_frac eq_frac_zero
attribute [local go_sem] Instr.field asAgg
theorem sumq_ne (bbxn:Bool) (vxn:Value) (kxn:Nat) (fxn:Nat→Nat) (mxn:Nat) (ixn:Int) (vxd:Value) (kxd:Nat) (fxd:Nat→Nat) (mxd:Nat) (bbyn:Bool) (vyn:Value) (kyn:Nat) (fyn:Nat→Nat) (myn:Nat) (iyn:Int) (vyd:Value) (kyd:Nat) (fyd:Nat→Nat) (myd:Nat) (a b:Rat)  (sa:Int) (sb:Int) (c0:Int) (w:World) (HWxn:Hid (Wa w vxn kxn fxn)) (HFxn:Hid (∀ i,i<kxn→fxn i<4294967296)) (HVxn:Hid (vl fxn kxn=mxn)) (HAxn:Hid ((if bbxn then -((mxn:Nat):Int) else ((mxn:Nat):Int))=ixn)) (HWxd:Hid (Wa w vxd kxd fxd)) (HFxd:Hid (∀ i,i<kxd→fxd i<4294967296)) (HVxd:Hid (vl fxd kxd=mxd)) (HQx:Hid (mkRat ixn (mxd+1)=a)) (HWyn:Hid (Wa w vyn kyn fyn)) (HFyn:Hid (∀ i,i<kyn→fyn i<4294967296)) (HVyn:Hid (vl fyn kyn=myn)) (HAyn:Hid ((if bbyn then -((myn:Nat):Int) else ((myn:Nat):Int))=iyn)) (HWyd:Hid (Wa w vyd kyd fyd)) (HFyd:Hid (∀ i,i<kyd→fyd i<4294967296)) (HVyd:Hid (vl fyd kyd=myd)) (HQy:Hid (mkRat iyn (myd+1)=b)) (hkxn:kxn≤8) (hkxd:kxd≤8) (hkyn:kyn≤8) (hkyd:kyd≤8) (hb0:b≠0) (hab:a≠b) (HSA:Hid (sgQ a=sa)) (HSB:Hid (sgQ b=sb)) (hsb:¬ sb=0) (HC0:Hid (sgQ (a - b)=c0)) (hc0:¬ c0=0) (HT:Hid (Tab w)) :
  CB 53 #[.agg #[.bool bbxn,vxn,vxd],.agg #[.bool bbyn,vyn,vyd]] w (.bool true):=by
 obtain ⟨ao_xn,c_xn,rfl⟩:=HWxn.out.slice
 obtain ⟨ao_xd,c_xd,rfl⟩:=HWxd.out.slice
 have hm_xn:wl mxn≤8:=by rw [← HVxn.out];have:=wl_le.2 (vl_lt HFxn.out);omega
 have hm_xd:wl mxd≤8:=by rw [← HVxd.out];have:=wl_le.2 (vl_lt HFxd.out);omega
 have hi_x:wl (Int.natAbs ixn)≤8:=by rw [zsize HAxn.out];exact hm_xn
 have hs_x:sz a≤9:=by rw [← HQx.out];exact sz_great hi_x hm_xd
 have hr_x:rz a≤27:=by rw [← HQx.out];exact qc2 hi_x hm_xd (by decide)
 obtain ⟨ao_yn,c_yn,rfl⟩:=HWyn.out.slice
 obtain ⟨ao_yd,c_yd,rfl⟩:=HWyd.out.slice
 have hm_yn:wl myn≤8:=by rw [← HVyn.out];have:=wl_le.2 (vl_lt HFyn.out);omega
 have hm_yd:wl myd≤8:=by rw [← HVyd.out];have:=wl_le.2 (vl_lt HFyd.out);omega
 have hi_y:wl (Int.natAbs iyn)≤8:=by rw [zsize HAyn.out];exact hm_yn
 have hs_y:sz b≤9:=by rw [← HQy.out];exact sz_great hi_y hm_yd
 have hr_y:rz b≤27:=by rw [← HQy.out];exact qc2 hi_y hm_yd (by decide)
 go_enter Tryz.func53,Tryz.ntmps53
 have I:=lh_ (hp0 w)
 refine kSl fun K O=>?_;go_wp2
 refine kF_ O (al2_ I) fun Wx0 J=>?_;clear O K
 clear I;have I:=J;clear J
 generalize w.heap.size+1=gx1 at *
 refine wp_seq ?_
 have lx0:=kc0_ I
 have lx1:=kc1_ I
 refine kS fun K O=>?_
 have HG0:Hid (Gr Wx0 Wx0):=lh_ (Gr.refl _)
 refine qu6 fun T Y=>?_
 refine tk2_ ?_
 refine qb5 (cs:=#[.bool bbxn,(.slice ao_xn kxn c_xn),(.slice ao_xd kxd c_xd),.bool bbyn,(.slice ao_yn kyn c_yn),(.slice ao_yd kyd c_yd)]) (E:=83) (n:=2) rfl (by rfl) (fun w' hw=>?_) (fun gx3 vv3 hg0 yx3 bx3=>?_)
 ·go_simp
 clear yx3
 replace HG0:=lh_ (HG0.out.trans hg0)
 have HGS:=lh_ hg0;clear hg0
 clear HGS
 have BX3:=lh_ bx3;clear bx3
 clear lx0;have lx0:=kg0_ I HG0
 clear lx1;have lx1:=kg1_ I HG0
 simp only [Act.put,lA,lB,lC]
 refine ck Tryz.call127 (fun w' hw=>qs6 _ _ _ _ _ _ _ _ _ _ _ _ _ _ 8 gx3 _ (BX3.out.gr hw) om om om om) ?_
 refine tk ?_
 refine nzR Y O (fun w2 hg=>I.out.gr (HG0.out.trans hg)) ?_;clear Y T I HG0 BX3 lx0 lx1 O K;intro vw1 I
 refine wp_cond_false (by rfl) ?_
 refine wp_skip ?_
 show Code.wp _ _ _ _ _
 have HB:=HPb I
 have lx0:=kc0_ I
 have lx1:=kc1_ I
 refine kS fun K O=>?_
 have HG0:Hid (Gr vw1 vw1):=lh_ (Gr.refl _)
 refine wp_region_plan 12 [8,9,10,11] [] (fun i=>if i=8 then 5 else if i=9 then 6 else if i=10 then 7 else 8) (fun i=>if i=8 then .cells #[.int .u64 0,.string ⟨#[]⟩,.bool false,.int .u64 0,.string ⟨#[]⟩] 36 else if i=9 then .cells #[.int .u64 0,.string ⟨#[]⟩,.bool false,.int .u64 0,.string ⟨#[]⟩] 36 else if i=10 then .cells #[.bool false,.slice none 0 0,.slice none 0 0] 47 else .cells #[.bool false,.slice none 0 0,.slice none 0 0] 47) [(true,0),(true,2),(true,4),(true,6),(true,1),(true,3),(false,5),(false,7)] (by kernel_rfl) (by kernel_rfl) xj2 (fun i hi=>by cases hi) (fun _ _ _ _ _ h=>h) (fun T Y=>?_)
 iterate 4 refine tk ?_
 refine ck Tryz.call35 (fun w' hw=>qd2 bbxn kxn fxn mxn ixn kxd fxd mxd a ao_xn c_xn ao_xd c_xd w' (lh_ (HWxn.out.gr (Gr.trans HB.out hw))) HFxn HVxn HAxn (lh_ (HWxd.out.gr (Gr.trans HB.out hw))) HFxd HVxd HQx om om om om) ?_
 refine ck Tryz.call35 (fun w' hw=>qd2 bbyn kyn fyn myn iyn kyd fyd myd b ao_yn c_yn ao_yd c_yd w' (lh_ (HWyn.out.gr (Gr.trans HB.out hw))) HFyn HVyn HAyn (lh_ (HWyd.out.gr (Gr.trans HB.out hw))) HFyd HVyd HQy om om om om) ?_
 refine ce2 Tryz.call128 HG0 (fun w' hw=>(qf9 bbxn kxn fxn mxn ixn kxd fxd mxd a ao_xn c_xn ao_xd c_xd w' (lh_ (HWxn.out.gr (Gr.trans HB.out hw))) HFxn HVxn HAxn (lh_ (HWxd.out.gr (Gr.trans HB.out hw))) HFxd HVxd HQx om om om om)) ?_;clear HG0;intro vv4 HG0 HGS ao1 nn1 cc1 ao2 nn2 cc2 RN4 RN5
 replace HB:=lh_ (HB.out.trans (HGS.out.mono HB.out.size))
 clear HGS
 clear lx0;have lx0:=fun w' (h:Gr _ w')=>kc0_ I w' (HG0.out.trans h)
 clear lx1;have lx1:=fun w' (h:Gr _ w')=>kc1_ I w' (HG0.out.trans h)
 refine ce2 Tryz.call128 HG0 (fun w' hw=>(qf9 bbyn kyn fyn myn iyn kyd fyd myd b ao_yn c_yn ao_yd c_yd w' (lh_ (HWyn.out.gr (Gr.trans HB.out hw))) HFyn HVyn HAyn (lh_ (HWyd.out.gr (Gr.trans HB.out hw))) HFyd HVyd HQy om om om om)) ?_;clear HG0;intro vv6 HG0 HGS ao3 nn3 cc3 ao4 nn4 cc4 RN6 RN7
 replace RN4:=lh_ (RN4.out.gr HGS.out)
 replace RN5:=lh_ (RN5.out.gr HGS.out)
 replace HB:=lh_ (HB.out.trans (HGS.out.mono HB.out.size))
 clear HGS
 clear lx0;have lx0:=fun w' (h:Gr _ w')=>kc0_ I w' (HG0.out.trans h)
 clear lx1;have lx1:=fun w' (h:Gr _ w')=>kc1_ I w' (HG0.out.trans h)
 refine wpPlan_nil (Y.out _ _ ?_)
 intro G vw2 hg hf
 simp only [puts,Act.put,lA,lB,lC,lD,lE,↓reduceIte,Nat.reduceEqDiff]
 have J:=lh_ (((((I.out.fr (HG0.out.trans hg) hf (zs:=[(#[.int .u64 0,.string ⟨#[]⟩,.bool false,.int .u64 0,.string ⟨#[]⟩],36),(#[.int .u64 0,.string ⟨#[]⟩,.bool false,.int .u64 0,.string ⟨#[]⟩],36),(#[.bool false,.slice none 0 0,.slice none 0 0],47),(#[.bool false,.slice none 0 0,.slice none 0 0],47)]) rfl (by decide) (by decide)).ar (RN4.out.gr hg)).ar (RN5.out.gr hg)).ar (RN6.out.gr hg)).ar (RN7.out.gr hg))
 simp only [zq1_,zq2_,zq3_,zq4_,lF,lG] at J
 clear Y T I hg hf HG0 RN4 RN5 RN6 RN7 lx0 lx1 HB
 generalize G 8=gx8 at *
 generalize G 9=gx9 at *
 generalize G 10=gx10 at *
 generalize G 11=gx11 at *
 have lx8:=kc2_ J;have fx8:=kf2_ J
 have lx9:=kc3_ J;have fx9:=kf3_ J
 have lx10:=kc4_ J;have fx10:=kf4_ J
 have lx11:=kc5_ J;have fx11:=kf5_ J
 have r0:=Gr.refl vw2
 obtain ⟨d8_9,d9_8⟩:=J.out.ne 2 3 rfl rfl (by decide)
 obtain ⟨d8_10,d10_8⟩:=J.out.ne 2 4 rfl rfl (by decide)
 obtain ⟨d8_11,d11_8⟩:=J.out.ne 2 5 rfl rfl (by decide)
 obtain ⟨d9_10,d10_9⟩:=J.out.ne 3 4 rfl rfl (by decide)
 obtain ⟨d9_11,d11_9⟩:=J.out.ne 3 5 rfl rfl (by decide)
 obtain ⟨d10_11,d11_10⟩:=J.out.ne 4 5 rfl rfl (by decide)
 go_wp2
 refine kO O ?_;clear O K
 clear r0 lx8 fx8 lx9 fx9 lx10 fx10 lx11 fx11 d8_9 d9_8 d8_10 d10_8 d8_11 d11_8 d9_10 d10_9 d9_11 d11_9 d10_11 d11_10
 refine fH (((((((((((((J.out).put2 2 0 rfl).put2 2 2 rfl).put 2 4 _ rfl).put2 3 0 rfl).put2 3 2 rfl).put 3 4 _ rfl).put2 4 0 rfl).put 4 2 _ rfl).put2 5 0 rfl).put 5 2 _ rfl).er 1).er 0) fun Wx3 I=>?_
 clear J
 have lx10:=kc2_ I
 have lx11:=kc3_ I
 refine qb2 fun K O T Y=>?_
 refine tk2_ ?_
 refine ck Tryz.call129 (fun w' hw=>qs4 a b c0 _ _ _ _ _ HC0.out om om (I.out.r 4 rfl hw) (I.out.r 5 rfl hw) (I.out.r 6 rfl hw) (I.out.r 7 rfl hw)) ?_
 refine tk ?_
 refine nz Y I O ?_;clear Y T I lx10 lx11 O K;intro vw3 I
 obtain ⟨u1,HZ1⟩:=ex_ (a / b)
 have su1:sz u1≤18:=by rw [← HZ1.out];have:=sz_div a b;omega
 have lx8:=kc0_ I
 have lx9:=kc1_ I
 refine qa2 fun K O T Y=>?_
 refine tk2_ ?_
 refine ck Tryz.call79 (fun w' hw=>fdiv_any a b u1 _ HZ1.out zb9_ om om) ?_
 refine tk3_ ?_
 refine nlS Y I fun vw4 J=>?_
 clear Y T I lx8 lx9
 go_wp2
 refine kF_ O ((J.out).aL (vw4.heap.size)) fun Wx5 I=>?_;clear O K
 clear J
 generalize vw4.heap.size=gx12 at *
 have hd1:(sb == (0))=false:=by have:¬ (sb=0):=zb9_;simpa using this
 have lx11:=kc3_ I
 refine qb2 fun K O T Y=>?_
 refine tk ?_
 refine ck Tryz.call88 (fun w' hw=>qd5 b sb _ _ _ HSB.out (I.out.r 6 rfl hw) (I.out.r 7 rfl hw)) ?_
 refine tk2_ ?_
 refine nz Y I O ?_;clear Y T I lx11 O K;intro vw5 I
 clear hd1
 refine wp_seq ?_
 have HB:=HPb I
 obtain ⟨u2,HZ2⟩:=ex_ (a+(b))
 have su2:sz u2≤19:=by rw [← HZ2.out];have:=qc9 a b;omega
 have HZ3:Hid (a+(b)=u2):=lh_ xi_
 have su3:rz u2≤55:=by have e:=HZ3.out;first|omega|(rw [← e];have:=qA8 a b;omega)
 obtain ⟨u4,HZ4⟩:=ex_ (a - b)
 have su4:sz u4≤19:=by rw [← HZ4.out];have:=qr2 a b;omega
 have HZ5:Hid (a - b=u4):=lh_ (by first|exact ok|exact Rat.sub_self|exact Rat.add_comm _ _|exact Rat.mul_comm _ _|exact Rat.add_assoc _ _ _|exact Rat.mul_assoc _ _ _|exact Rat.mul_add _ _ _|exact Rat.add_sub_cancel|exact Rat.mul_div_cancel (by assumption)|(simp only [← HZ4.out,← HZ2.out,← HZ1.out] <;> first|exact ok|exact Rat.sub_self|exact Rat.add_comm _ _|exact Rat.mul_comm _ _|exact Rat.add_assoc _ _ _|exact Rat.mul_assoc _ _ _|exact Rat.mul_add _ _ _|exact Rat.add_sub_cancel|exact Rat.mul_div_cancel (by assumption)))
 have su5:rz u4≤55:=by have e:=HZ5.out;first|omega|(rw [← e];have:=qA_ a b;omega)
 obtain ⟨u6,HZ6⟩:=ex_ (a*(b))
 have su6:sz u6≤18:=by rw [← HZ6.out];have:=sz_mul a b;omega
 have HZ7:Hid (a*(b)=u6):=lh_ xz9
 have su7:rz u6≤54:=by have e:=HZ7.out;first|omega|(rw [← e];have:=qA9 a b;omega)
 have HZ8:Hid (a / b=u1):=lh_ xz9
 have su8:rz u1≤54:=by have e:=HZ8.out;first|omega|(rw [← e];have:=qJ6 a b;omega)
 have lx8:=kc0_ I
 have lx9:=kc1_ I
 have lx10:=kc2_ I
 have lx11:=kc3_ I
 have lx12:=kc8_ I
 refine kS fun K O=>?_
 have HG0:Hid (Gr vw5 vw5):=lh_ (Gr.refl _)
 refine xg2 fun T Y=>?_
 refine tk2_ ?_
 refine ck Tryz.call66 (fun w' hw=>qa5 a _ _ _ om om (I.out.r 4 rfl (HG0.out.trans hw)) (I.out.r 5 rfl (HG0.out.trans hw)) (lh_ (HT.out.gr (Gr.trans HB.out hw)))) ?_
 iterate 6 refine tk ?_
 refine ck Tryz.call130 (fun w' hw=>qa_ a b u2 _ HZ2.out om om) ?_
 refine ce2 Tryz.call131 HG0 (fun w' hw=>qn1 a b u2 _ _ _ _ _ HZ3.out om om (I.out.r 4 rfl (HG0.out.trans hw)) (I.out.r 5 rfl (HG0.out.trans hw)) (I.out.r 6 rfl (HG0.out.trans hw)) (I.out.r 7 rfl (HG0.out.trans hw))) ?_;clear HG0;intro vv13 HG0 HGS ao5 nn5 cc5 ao6 nn6 cc6 RN13 RN14
 replace HB:=lh_ (HB.out.trans (HGS.out.mono HB.out.size))
 clear HGS
 clear lx8;have lx8:=fun w' (h:Gr _ w')=>kc0_ I w' (HG0.out.trans h)
 clear lx9;have lx9:=fun w' (h:Gr _ w')=>kc1_ I w' (HG0.out.trans h)
 clear lx10;have lx10:=fun w' (h:Gr _ w')=>kc2_ I w' (HG0.out.trans h)
 clear lx11;have lx11:=fun w' (h:Gr _ w')=>kc3_ I w' (HG0.out.trans h)
 clear lx12;have lx12:=fun w' (h:Gr _ w')=>kc8_ I w' (HG0.out.trans h)
 refine ck Tryz.call66 (fun w' hw=>qa5 u2 _ _ _ om om (RN13.out.gr hw) (RN14.out.gr hw) (lh_ (HT.out.gr (Gr.trans HB.out hw)))) ?_
 iterate 7 refine tk ?_
 refine ck Tryz.call132 (fun w' hw=>qg5 a b u4 _ HZ4.out om om) ?_
 refine ce2 Tryz.call133 HG0 (fun w' hw=>qn3 a b u4 _ _ _ _ _ HZ5.out om om (I.out.r 4 rfl (HG0.out.trans hw)) (I.out.r 5 rfl (HG0.out.trans hw)) (I.out.r 6 rfl (HG0.out.trans hw)) (I.out.r 7 rfl (HG0.out.trans hw))) ?_;clear HG0;intro vv15 HG0 HGS ao7 nn7 cc7 ao8 nn8 cc8 RN15 RN16
 replace RN13:=lh_ (RN13.out.gr HGS.out)
 replace RN14:=lh_ (RN14.out.gr HGS.out)
 replace HB:=lh_ (HB.out.trans (HGS.out.mono HB.out.size))
 clear HGS
 clear lx8;have lx8:=fun w' (h:Gr _ w')=>kc0_ I w' (HG0.out.trans h)
 clear lx9;have lx9:=fun w' (h:Gr _ w')=>kc1_ I w' (HG0.out.trans h)
 clear lx10;have lx10:=fun w' (h:Gr _ w')=>kc2_ I w' (HG0.out.trans h)
 clear lx11;have lx11:=fun w' (h:Gr _ w')=>kc3_ I w' (HG0.out.trans h)
 clear lx12;have lx12:=fun w' (h:Gr _ w')=>kc8_ I w' (HG0.out.trans h)
 refine ck Tryz.call66 (fun w' hw=>qa5 u4 _ _ _ om om (RN15.out.gr hw) (RN16.out.gr hw) (lh_ (HT.out.gr (Gr.trans HB.out hw)))) ?_
 iterate 7 refine tk ?_
 refine ck Tryz.call134 (fun w' hw=>fmul_any a b u6 _ HZ6.out om om) ?_
 refine ce2 Tryz.call135 HG0 (fun w' hw=>qn2 a b u6 _ _ _ _ _ HZ7.out om om (I.out.r 4 rfl (HG0.out.trans hw)) (I.out.r 5 rfl (HG0.out.trans hw)) (I.out.r 6 rfl (HG0.out.trans hw)) (I.out.r 7 rfl (HG0.out.trans hw))) ?_;clear HG0;intro vv17 HG0 HGS ao9 nn9 cc9 ao10 nn10 cc10 RN17 RN18
 replace RN13:=lh_ (RN13.out.gr HGS.out)
 replace RN14:=lh_ (RN14.out.gr HGS.out)
 replace RN15:=lh_ (RN15.out.gr HGS.out)
 replace RN16:=lh_ (RN16.out.gr HGS.out)
 replace HB:=lh_ (HB.out.trans (HGS.out.mono HB.out.size))
 clear HGS
 clear lx8;have lx8:=fun w' (h:Gr _ w')=>kc0_ I w' (HG0.out.trans h)
 clear lx9;have lx9:=fun w' (h:Gr _ w')=>kc1_ I w' (HG0.out.trans h)
 clear lx10;have lx10:=fun w' (h:Gr _ w')=>kc2_ I w' (HG0.out.trans h)
 clear lx11;have lx11:=fun w' (h:Gr _ w')=>kc3_ I w' (HG0.out.trans h)
 clear lx12;have lx12:=fun w' (h:Gr _ w')=>kc8_ I w' (HG0.out.trans h)
 refine ck Tryz.call66 (fun w' hw=>qa5 u6 _ _ _ om om (RN17.out.gr hw) (RN18.out.gr hw) (lh_ (HT.out.gr (Gr.trans HB.out hw)))) ?_
 iterate 6 refine tk ?_
 refine ce2 Tryz.call89 HG0 (fun w' hw=>qs5 a b u1 _ _ _ _ _ HZ8.out om om (I.out.r 4 rfl (HG0.out.trans hw)) (I.out.r 5 rfl (HG0.out.trans hw)) (I.out.r 6 rfl (HG0.out.trans hw)) (I.out.r 7 rfl (HG0.out.trans hw))) ?_;clear HG0;intro vv19 HG0 HGS ao11 nn11 cc11 ao12 nn12 cc12 RN19 RN20
 replace RN13:=lh_ (RN13.out.gr HGS.out)
 replace RN14:=lh_ (RN14.out.gr HGS.out)
 replace RN15:=lh_ (RN15.out.gr HGS.out)
 replace RN16:=lh_ (RN16.out.gr HGS.out)
 replace RN17:=lh_ (RN17.out.gr HGS.out)
 replace RN18:=lh_ (RN18.out.gr HGS.out)
 replace HB:=lh_ (HB.out.trans (HGS.out.mono HB.out.size))
 clear HGS
 clear lx8;have lx8:=fun w' (h:Gr _ w')=>kc0_ I w' (HG0.out.trans h)
 clear lx9;have lx9:=fun w' (h:Gr _ w')=>kc1_ I w' (HG0.out.trans h)
 clear lx10;have lx10:=fun w' (h:Gr _ w')=>kc2_ I w' (HG0.out.trans h)
 clear lx11;have lx11:=fun w' (h:Gr _ w')=>kc3_ I w' (HG0.out.trans h)
 clear lx12;have lx12:=fun w' (h:Gr _ w')=>kc8_ I w' (HG0.out.trans h)
 refine ck Tryz.call66 (fun w' hw=>qa5 u1 _ _ _ om om (RN19.out.gr hw) (RN20.out.gr hw) (lh_ (HT.out.gr (Gr.trans HB.out hw)))) ?_
 iterate 13 refine tk ?_
 refine wpPlan_nil (Y.out _ _ ?_)
 intro G vw6 hg hf
 simp only [puts,Act.put,lA,lB,lC,lD,lE,↓reduceIte,Nat.reduceEqDiff]
 have J:=lh_ (((((((((I.out.gr (HG0.out.trans hg)).ar (RN13.out.gr hg)).ar (RN14.out.gr hg)).ar (RN15.out.gr hg)).ar (RN16.out.gr hg)).ar (RN17.out.gr hg)).ar (RN18.out.gr hg)).ar (RN19.out.gr hg)).ar (RN20.out.gr hg))
 simp only [zq1_,zq2_,zq3_,zq4_,lF,lG] at J
 clear Y T I hg hf HG0 RN13 RN14 RN15 RN16 RN17 RN18 RN19 RN20 lx8 lx9 lx10 lx11 lx12 HB
 go_wp2
 refine kF_ O (((((((((((((J.out).er 16).er 15).er 14).er 13).er 12).er 11).er 10).er 9).er 8).er 7).er 6).er 3) fun Wx7 I=>?_;clear O K
 clear J
 refine wp_cond_false (by rfl) ?_
 refine wp_skip ?_
 show Code.wp _ _ _ _ _
 have HB:=HPb I
 obtain ⟨u9,HZ9⟩:=ex_ (-(a))
 have su9:sz u9≤9:=by rw [← HZ9.out];rw [qn8];omega
 have HZ10:Hid (-(a)=u9):=lh_ (by first|exact ok|exact Rat.sub_self|exact Rat.add_comm _ _|exact Rat.mul_comm _ _|exact Rat.add_assoc _ _ _|exact Rat.mul_assoc _ _ _|exact Rat.mul_add _ _ _|exact Rat.add_sub_cancel|exact Rat.mul_div_cancel (by assumption)|(simp only [← HZ9.out,← HZ6.out,← HZ4.out,← HZ2.out,← HZ1.out] <;> first|exact ok|exact Rat.sub_self|exact Rat.add_comm _ _|exact Rat.mul_comm _ _|exact Rat.add_assoc _ _ _|exact Rat.mul_assoc _ _ _|exact Rat.mul_add _ _ _|exact Rat.add_sub_cancel|exact Rat.mul_div_cancel (by assumption)))
 have su10:rz u9≤27:=by have e:=HZ10.out;first|omega|(rw [← e];rw [qu1];omega)
 obtain ⟨u11,HZ11⟩:=ex_ (qabs a)
 have su11:sz u11≤9:=by rw [← HZ11.out];rw [qy3];omega
 have HZ12:Hid (qabs a=u11):=lh_ xt0
 have su12:rz u11≤27:=by have e:=HZ12.out;first|omega|(rw [← e];rw [qy0];omega)
 have hd2:decide (a=b)=false:=decide_eq_false xt0
 have hd3:(c0 == (0))=false:=by have:¬ (c0=0):=xt0;simpa using this
 obtain ⟨u13,HZ13⟩:=ex_ (a.floor)
 have su13:wl u13.natAbs≤10:=by rw [← HZ13.out];have:=qg9 a;omega
 have HZ14:Hid (a.floor=u13):=lh_ (by first|exact ok|exact Rat.sub_self|exact Rat.add_comm _ _|exact Rat.mul_comm _ _|exact Rat.add_assoc _ _ _|exact Rat.mul_assoc _ _ _|exact Rat.mul_add _ _ _|exact Rat.add_sub_cancel|exact Rat.mul_div_cancel (by assumption)|(simp only [← HZ13.out,← HZ11.out,← HZ9.out,← HZ6.out,← HZ4.out,← HZ2.out,← HZ1.out] <;> first|exact ok|exact Rat.sub_self|exact Rat.add_comm _ _|exact Rat.mul_comm _ _|exact Rat.add_assoc _ _ _|exact Rat.mul_assoc _ _ _|exact Rat.mul_add _ _ _|exact Rat.add_sub_cancel|exact Rat.mul_div_cancel (by assumption)))
 have su14:tw u13.natAbs≤28:=by have e:=HZ14.out;first|omega|(rw [← e];have:=qt0 a;omega)
 have hd4:(((itx u13)).toList == ((itx u13)).toList)=true:=by simp
 have lx8:=kc0_ I
 have lx9:=kc1_ I
 have lx10:=kc2_ I
 refine kS fun K O=>?_
 have HG0:Hid (Gr Wx7 Wx7):=lh_ (Gr.refl _)
 refine xg3 fun T Y=>?_
 refine tk2_ ?_
 refine ck Tryz.call45 (fun w' hw=>qk2 a u9 _ HZ9.out) ?_
 refine ce2 Tryz.call136 HG0 (fun w' hw=>qk6 a u9 _ _ _ HZ10.out (I.out.r 3 rfl (HG0.out.trans hw)) (I.out.r 4 rfl (HG0.out.trans hw))) ?_;clear HG0;intro vv21 HG0 HGS ao13 nn13 cc13 ao14 nn14 cc14 RN21 RN22
 replace HB:=lh_ (HB.out.trans (HGS.out.mono HB.out.size))
 clear HGS
 clear lx8;have lx8:=fun w' (h:Gr _ w')=>kc0_ I w' (HG0.out.trans h)
 clear lx9;have lx9:=fun w' (h:Gr _ w')=>kc1_ I w' (HG0.out.trans h)
 clear lx10;have lx10:=fun w' (h:Gr _ w')=>kc2_ I w' (HG0.out.trans h)
 refine ck Tryz.call66 (fun w' hw=>qa5 u9 _ _ _ om om (RN21.out.gr hw) (RN22.out.gr hw) (lh_ (HT.out.gr (Gr.trans HB.out hw)))) ?_
 refine tk3_ ?_
 refine ck Tryz.call137 (fun w' hw=>qs0 a u11 _ HZ11.out) ?_
 refine ce2 Tryz.call138 HG0 (fun w' hw=>qs3 a u11 _ _ _ HZ12.out (I.out.r 3 rfl (HG0.out.trans hw)) (I.out.r 4 rfl (HG0.out.trans hw))) ?_;clear HG0;intro vv23 HG0 HGS ao15 nn15 cc15 ao16 nn16 cc16 RN23 RN24
 replace RN21:=lh_ (RN21.out.gr HGS.out)
 replace RN22:=lh_ (RN22.out.gr HGS.out)
 replace HB:=lh_ (HB.out.trans (HGS.out.mono HB.out.size))
 clear HGS
 clear lx8;have lx8:=fun w' (h:Gr _ w')=>kc0_ I w' (HG0.out.trans h)
 clear lx9;have lx9:=fun w' (h:Gr _ w')=>kc1_ I w' (HG0.out.trans h)
 clear lx10;have lx10:=fun w' (h:Gr _ w')=>kc2_ I w' (HG0.out.trans h)
 refine ck Tryz.call66 (fun w' hw=>qa5 u11 _ _ _ om om (RN23.out.gr hw) (RN24.out.gr hw) (lh_ (HT.out.gr (Gr.trans HB.out hw)))) ?_
 iterate 4 refine tk ?_
 refine ck Tryz.call139 (fun w' hw=>fsign_any a sa _ HSA.out) ?_
 refine ck Tryz.call88 (fun w' hw=>qd5 a sa _ _ _ HSA.out (I.out.r 3 rfl (HG0.out.trans hw)) (I.out.r 4 rfl (HG0.out.trans hw))) ?_
 iterate 6 refine tk ?_
 refine ck Tryz.call140 (fun w' hw=>qa3 a b c0 _ HC0.out om om) ?_
 iterate 13 refine tk ?_
 refine ck Tryz.call142 (fun w' hw=>qe4 a u13 _ (lh_ HZ13.out) om) ?_
 refine ck Tryz.call141 (fun w' hw=>qj5 u13 _ om (lh_ (HT.out.gr (Gr.trans HB.out hw)))) ?_
 refine ce1 Tryz.call144 HG0 (fun w' hw=>qk5 a u13 _ _ _ (lh_ HZ14.out) om (I.out.r 3 rfl (HG0.out.trans hw)) (I.out.r 4 rfl (HG0.out.trans hw))) ?_;clear HG0;intro vv25 HG0 HGS ao17 nn17 cc17 RN25
 replace RN21:=lh_ (RN21.out.gr HGS.out)
 replace RN22:=lh_ (RN22.out.gr HGS.out)
 replace RN23:=lh_ (RN23.out.gr HGS.out)
 replace RN24:=lh_ (RN24.out.gr HGS.out)
 replace HB:=lh_ (HB.out.trans (HGS.out.mono HB.out.size))
 clear HGS
 clear lx8;have lx8:=fun w' (h:Gr _ w')=>kc0_ I w' (HG0.out.trans h)
 clear lx9;have lx9:=fun w' (h:Gr _ w')=>kc1_ I w' (HG0.out.trans h)
 clear lx10;have lx10:=fun w' (h:Gr _ w')=>kc2_ I w' (HG0.out.trans h)
 refine ck Tryz.call143 (fun w' hw=>qi4 u13 _ _ (RN25.out.gr hw) om) ?_
 refine tk3_ ?_
 refine ck Tryz.call62 (fun w' hw=>worksq_any _ (lh_ (HT.out.gr (Gr.trans HB.out hw)))) ?_
 refine tk ?_
 refine wpPlan_nil (Y.out _ _ ?_)
 intro G vw7 hg hf
 simp only [puts,Act.put,lA,lB,lC,lD,lE,↓reduceIte,Nat.reduceEqDiff]
 have J:=lh_ ((((((I.out.gr (HG0.out.trans hg)).ar (RN21.out.gr hg)).ar (RN22.out.gr hg)).ar (RN23.out.gr hg)).ar (RN24.out.gr hg)).ar (RN25.out.gr hg))
 simp only [zq1_,zq2_,zq3_,zq4_,lF,lG] at J
 clear Y T I hg hf HG0 RN21 RN22 RN23 RN24 RN25 lx8 lx9 lx10 HB
 go_wp2
 refine kF_ O (((((((((((J.out).er 9).er 8).er 7).er 6).er 5).er 4).er 3).er 2).er 1).er 0) fun Wx9 I=>?_;clear O K
 clear J
 clear hd2 hd3 hd4
 refine wp_ret ?_
 try simp only [Exit.then,Exit.inBlock]
 exact bR ⟨rfl,I.out.1⟩ xj6
theorem sumq_eq (bbxn:Bool) (vxn:Value) (kxn:Nat) (fxn:Nat→Nat) (mxn:Nat) (ixn:Int) (vxd:Value) (kxd:Nat) (fxd:Nat→Nat) (mxd:Nat) (bbyn:Bool) (vyn:Value) (kyn:Nat) (fyn:Nat→Nat) (myn:Nat) (iyn:Int) (vyd:Value) (kyd:Nat) (fyd:Nat→Nat) (myd:Nat) (a:Rat)  (sa:Int) (w:World) (HWxn:Hid (Wa w vxn kxn fxn)) (HFxn:Hid (∀ i,i<kxn→fxn i<4294967296)) (HVxn:Hid (vl fxn kxn=mxn)) (HAxn:Hid ((if bbxn then -((mxn:Nat):Int) else ((mxn:Nat):Int))=ixn)) (HWxd:Hid (Wa w vxd kxd fxd)) (HFxd:Hid (∀ i,i<kxd→fxd i<4294967296)) (HVxd:Hid (vl fxd kxd=mxd)) (HQx:Hid (mkRat ixn (mxd+1)=a)) (HWyn:Hid (Wa w vyn kyn fyn)) (HFyn:Hid (∀ i,i<kyn→fyn i<4294967296)) (HVyn:Hid (vl fyn kyn=myn)) (HAyn:Hid ((if bbyn then -((myn:Nat):Int) else ((myn:Nat):Int))=iyn)) (HWyd:Hid (Wa w vyd kyd fyd)) (HFyd:Hid (∀ i,i<kyd→fyd i<4294967296)) (HVyd:Hid (vl fyd kyd=myd)) (HQy:Hid (mkRat iyn (myd+1)=a)) (hkxn:kxn≤8) (hkxd:kxd≤8) (hkyn:kyn≤8) (hkyd:kyd≤8) (hb0:a≠0) (HSA:Hid (sgQ a=sa)) (hsb:¬ sa=0) (HT:Hid (Tab w)) :
  CB 53 #[.agg #[.bool bbxn,vxn,vxd],.agg #[.bool bbyn,vyn,vyd]] w (.bool true):=by
 obtain ⟨ao_xn,c_xn,rfl⟩:=HWxn.out.slice
 obtain ⟨ao_xd,c_xd,rfl⟩:=HWxd.out.slice
 have hm_xn:wl mxn≤8:=by rw [← HVxn.out];have:=wl_le.2 (vl_lt HFxn.out);omega
 have hm_xd:wl mxd≤8:=by rw [← HVxd.out];have:=wl_le.2 (vl_lt HFxd.out);omega
 have hi_x:wl (Int.natAbs ixn)≤8:=by rw [zsize HAxn.out];exact hm_xn
 have hs_x:sz a≤9:=by rw [← HQx.out];exact sz_great hi_x hm_xd
 have hr_x:rz a≤27:=by rw [← HQx.out];exact qc2 hi_x hm_xd (by decide)
 obtain ⟨ao_yn,c_yn,rfl⟩:=HWyn.out.slice
 obtain ⟨ao_yd,c_yd,rfl⟩:=HWyd.out.slice
 have hm_yn:wl myn≤8:=by rw [← HVyn.out];have:=wl_le.2 (vl_lt HFyn.out);omega
 have hm_yd:wl myd≤8:=by rw [← HVyd.out];have:=wl_le.2 (vl_lt HFyd.out);omega
 have hi_y:wl (Int.natAbs iyn)≤8:=by rw [zsize HAyn.out];exact hm_yn
 have hs_y:sz a≤9:=by rw [← HQy.out];exact sz_great hi_y hm_yd
 have hr_y:rz a≤27:=by rw [← HQy.out];exact qc2 hi_y hm_yd (by decide)
 go_enter Tryz.func53,Tryz.ntmps53
 have I:=lh_ (hp0 w)
 refine kSl fun K O=>?_;go_wp2
 refine kF_ O (al2_ I) fun Wx0 J=>?_;clear O K
 clear I;have I:=J;clear J
 generalize w.heap.size+1=gx1 at *
 refine wp_seq ?_
 have lx0:=kc0_ I
 have lx1:=kc1_ I
 refine kS fun K O=>?_
 have HG0:Hid (Gr Wx0 Wx0):=lh_ (Gr.refl _)
 refine qu6 fun T Y=>?_
 refine tk2_ ?_
 refine qb5 (cs:=#[.bool bbxn,(.slice ao_xn kxn c_xn),(.slice ao_xd kxd c_xd),.bool bbyn,(.slice ao_yn kyn c_yn),(.slice ao_yd kyd c_yd)]) (E:=83) (n:=2) rfl (by rfl) (fun w' hw=>?_) (fun gx3 vv3 hg0 yx3 bx3=>?_)
 ·go_simp
 clear yx3
 replace HG0:=lh_ (HG0.out.trans hg0)
 have HGS:=lh_ hg0;clear hg0
 clear HGS
 have BX3:=lh_ bx3;clear bx3
 clear lx0;have lx0:=kg0_ I HG0
 clear lx1;have lx1:=kg1_ I HG0
 simp only [Act.put,lA,lB,lC]
 refine ck Tryz.call127 (fun w' hw=>qs6 _ _ _ _ _ _ _ _ _ _ _ _ _ _ 8 gx3 _ (BX3.out.gr hw) om om om om) ?_
 refine tk ?_
 refine nzR Y O (fun w2 hg=>I.out.gr (HG0.out.trans hg)) ?_;clear Y T I HG0 BX3 lx0 lx1 O K;intro vw1 I
 refine wp_cond_false (by rfl) ?_
 refine wp_skip ?_
 show Code.wp _ _ _ _ _
 have HB:=HPb I
 have lx0:=kc0_ I
 have lx1:=kc1_ I
 refine kS fun K O=>?_
 have HG0:Hid (Gr vw1 vw1):=lh_ (Gr.refl _)
 refine wp_region_plan 12 [8,9,10,11] [] (fun i=>if i=8 then 5 else if i=9 then 6 else if i=10 then 7 else 8) (fun i=>if i=8 then .cells #[.int .u64 0,.string ⟨#[]⟩,.bool false,.int .u64 0,.string ⟨#[]⟩] 36 else if i=9 then .cells #[.int .u64 0,.string ⟨#[]⟩,.bool false,.int .u64 0,.string ⟨#[]⟩] 36 else if i=10 then .cells #[.bool false,.slice none 0 0,.slice none 0 0] 47 else .cells #[.bool false,.slice none 0 0,.slice none 0 0] 47) [(true,0),(true,2),(true,4),(true,6),(true,1),(true,3),(false,5),(false,7)] (by kernel_rfl) (by kernel_rfl) xj2 (fun i hi=>by cases hi) (fun _ _ _ _ _ h=>h) (fun T Y=>?_)
 iterate 4 refine tk ?_
 refine ck Tryz.call35 (fun w' hw=>qd2 bbxn kxn fxn mxn ixn kxd fxd mxd a ao_xn c_xn ao_xd c_xd w' (lh_ (HWxn.out.gr (Gr.trans HB.out hw))) HFxn HVxn HAxn (lh_ (HWxd.out.gr (Gr.trans HB.out hw))) HFxd HVxd HQx om om om om) ?_
 refine ck Tryz.call35 (fun w' hw=>qd2 bbyn kyn fyn myn iyn kyd fyd myd a ao_yn c_yn ao_yd c_yd w' (lh_ (HWyn.out.gr (Gr.trans HB.out hw))) HFyn HVyn HAyn (lh_ (HWyd.out.gr (Gr.trans HB.out hw))) HFyd HVyd HQy om om om om) ?_
 refine ce2 Tryz.call128 HG0 (fun w' hw=>(qf9 bbxn kxn fxn mxn ixn kxd fxd mxd a ao_xn c_xn ao_xd c_xd w' (lh_ (HWxn.out.gr (Gr.trans HB.out hw))) HFxn HVxn HAxn (lh_ (HWxd.out.gr (Gr.trans HB.out hw))) HFxd HVxd HQx om om om om)) ?_;clear HG0;intro vv4 HG0 HGS ao1 nn1 cc1 ao2 nn2 cc2 RN4 RN5
 replace HB:=lh_ (HB.out.trans (HGS.out.mono HB.out.size))
 clear HGS
 clear lx0;have lx0:=fun w' (h:Gr _ w')=>kc0_ I w' (HG0.out.trans h)
 clear lx1;have lx1:=fun w' (h:Gr _ w')=>kc1_ I w' (HG0.out.trans h)
 refine ce2 Tryz.call128 HG0 (fun w' hw=>(qf9 bbyn kyn fyn myn iyn kyd fyd myd a ao_yn c_yn ao_yd c_yd w' (lh_ (HWyn.out.gr (Gr.trans HB.out hw))) HFyn HVyn HAyn (lh_ (HWyd.out.gr (Gr.trans HB.out hw))) HFyd HVyd HQy om om om om)) ?_;clear HG0;intro vv6 HG0 HGS ao3 nn3 cc3 ao4 nn4 cc4 RN6 RN7
 replace RN4:=lh_ (RN4.out.gr HGS.out)
 replace RN5:=lh_ (RN5.out.gr HGS.out)
 replace HB:=lh_ (HB.out.trans (HGS.out.mono HB.out.size))
 clear HGS
 clear lx0;have lx0:=fun w' (h:Gr _ w')=>kc0_ I w' (HG0.out.trans h)
 clear lx1;have lx1:=fun w' (h:Gr _ w')=>kc1_ I w' (HG0.out.trans h)
 refine wpPlan_nil (Y.out _ _ ?_)
 intro G vw2 hg hf
 simp only [puts,Act.put,lA,lB,lC,lD,lE,↓reduceIte,Nat.reduceEqDiff]
 have J:=lh_ (((((I.out.fr (HG0.out.trans hg) hf (zs:=[(#[.int .u64 0,.string ⟨#[]⟩,.bool false,.int .u64 0,.string ⟨#[]⟩],36),(#[.int .u64 0,.string ⟨#[]⟩,.bool false,.int .u64 0,.string ⟨#[]⟩],36),(#[.bool false,.slice none 0 0,.slice none 0 0],47),(#[.bool false,.slice none 0 0,.slice none 0 0],47)]) rfl (by decide) (by decide)).ar (RN4.out.gr hg)).ar (RN5.out.gr hg)).ar (RN6.out.gr hg)).ar (RN7.out.gr hg))
 simp only [zq1_,zq2_,zq3_,zq4_,lF,lG] at J
 clear Y T I hg hf HG0 RN4 RN5 RN6 RN7 lx0 lx1 HB
 generalize G 8=gx8 at *
 generalize G 9=gx9 at *
 generalize G 10=gx10 at *
 generalize G 11=gx11 at *
 have lx8:=kc2_ J;have fx8:=kf2_ J
 have lx9:=kc3_ J;have fx9:=kf3_ J
 have lx10:=kc4_ J;have fx10:=kf4_ J
 have lx11:=kc5_ J;have fx11:=kf5_ J
 have r0:=Gr.refl vw2
 obtain ⟨d8_9,d9_8⟩:=J.out.ne 2 3 rfl rfl (by decide)
 obtain ⟨d8_10,d10_8⟩:=J.out.ne 2 4 rfl rfl (by decide)
 obtain ⟨d8_11,d11_8⟩:=J.out.ne 2 5 rfl rfl (by decide)
 obtain ⟨d9_10,d10_9⟩:=J.out.ne 3 4 rfl rfl (by decide)
 obtain ⟨d9_11,d11_9⟩:=J.out.ne 3 5 rfl rfl (by decide)
 obtain ⟨d10_11,d11_10⟩:=J.out.ne 4 5 rfl rfl (by decide)
 go_wp2
 refine kO O ?_;clear O K
 clear r0 lx8 fx8 lx9 fx9 lx10 fx10 lx11 fx11 d8_9 d9_8 d8_10 d10_8 d8_11 d11_8 d9_10 d10_9 d9_11 d11_9 d10_11 d11_10
 refine fH (((((((((((((J.out).put2 2 0 rfl).put2 2 2 rfl).put 2 4 _ rfl).put2 3 0 rfl).put2 3 2 rfl).put 3 4 _ rfl).put2 4 0 rfl).put 4 2 _ rfl).put2 5 0 rfl).put 5 2 _ rfl).er 1).er 0) fun Wx3 I=>?_
 clear J
 have lx10:=kc2_ I
 have lx11:=kc3_ I
 refine qb2 fun K O T Y=>?_
 refine tk2_ ?_
 refine ck Tryz.call129 (fun w' hw=>qs4 a a (0) _ _ _ _ _ (by have e9:(a) - a=(0:Rat):=zb0_;exact qh5 e9) om om (I.out.r 4 rfl hw) (I.out.r 5 rfl hw) (I.out.r 6 rfl hw) (I.out.r 7 rfl hw)) ?_
 refine tk ?_
 refine nz Y I O ?_;clear Y T I lx10 lx11 O K;intro vw3 I
 obtain ⟨u1,HZ1⟩:=ex_ (a / a)
 have su1:sz u1≤18:=by rw [← HZ1.out];have:=sz_div a a;omega
 have lx8:=kc0_ I
 have lx9:=kc1_ I
 refine qa2 fun K O T Y=>?_
 refine tk2_ ?_
 refine ck Tryz.call79 (fun w' hw=>fdiv_any a a u1 _ HZ1.out zb9_ om om) ?_
 refine tk3_ ?_
 refine nlS Y I fun vw4 J=>?_
 clear Y T I lx8 lx9
 go_wp2
 refine kF_ O ((J.out).aL (vw4.heap.size)) fun Wx5 I=>?_;clear O K
 clear J
 generalize vw4.heap.size=gx12 at *
 have hd1:(sa == (0))=false:=by have:¬ (sa=0):=zb9_;simpa using this
 have lx11:=kc3_ I
 refine qb2 fun K O T Y=>?_
 refine tk ?_
 refine ck Tryz.call88 (fun w' hw=>qd5 a sa _ _ _ HSA.out (I.out.r 6 rfl hw) (I.out.r 7 rfl hw)) ?_
 refine tk2_ ?_
 refine nz Y I O ?_;clear Y T I lx11 O K;intro vw5 I
 clear hd1
 refine wp_seq ?_
 have HB:=HPb I
 obtain ⟨u2,HZ2⟩:=ex_ (a+(a))
 have su2:sz u2≤19:=by rw [← HZ2.out];have:=qc9 a a;omega
 have HZ3:Hid (a+(a)=u2):=lh_ xi_
 have su3:rz u2≤55:=by have e:=HZ3.out;first|omega|(rw [← e];have:=qA8 a a;omega)
 have HZ4:Hid (a - a=(0:Rat)):=lh_ xi_
 have su4:sz ((0:Rat))≤19:=by have e:=HZ4.out;first|omega|(rw [← e];have:=qr2 a a;omega)
 have HZ5:Hid (a - a=(0:Rat)):=lh_ xi_
 have su5:rz ((0:Rat))≤55:=by have e:=HZ5.out;first|omega|(rw [← e];have:=qA_ a a;omega)
 obtain ⟨u6,HZ6⟩:=ex_ (a*(a))
 have su6:sz u6≤18:=by rw [← HZ6.out];have:=sz_mul a a;omega
 have HZ7:Hid (a*(a)=u6):=lh_ xz_
 have su7:rz u6≤54:=by have e:=HZ7.out;first|omega|(rw [← e];have:=qA9 a a;omega)
 have HZ8:Hid (a / a=u1):=lh_ xz_
 have su8:rz u1≤54:=by have e:=HZ8.out;first|omega|(rw [← e];have:=qJ6 a a;omega)
 have lx8:=kc0_ I
 have lx9:=kc1_ I
 have lx10:=kc2_ I
 have lx11:=kc3_ I
 have lx12:=kc8_ I
 refine kS fun K O=>?_
 have HG0:Hid (Gr vw5 vw5):=lh_ (Gr.refl _)
 refine xg2 fun T Y=>?_
 refine tk2_ ?_
 refine ck Tryz.call66 (fun w' hw=>qa5 a _ _ _ om om (I.out.r 4 rfl (HG0.out.trans hw)) (I.out.r 5 rfl (HG0.out.trans hw)) (lh_ (HT.out.gr (Gr.trans HB.out hw)))) ?_
 iterate 6 refine tk ?_
 refine ck Tryz.call130 (fun w' hw=>qa_ a a u2 _ HZ2.out om om) ?_
 refine ce2 Tryz.call131 HG0 (fun w' hw=>qn1 a a u2 _ _ _ _ _ HZ3.out om om (I.out.r 4 rfl (HG0.out.trans hw)) (I.out.r 5 rfl (HG0.out.trans hw)) (I.out.r 6 rfl (HG0.out.trans hw)) (I.out.r 7 rfl (HG0.out.trans hw))) ?_;clear HG0;intro vv13 HG0 HGS ao5 nn5 cc5 ao6 nn6 cc6 RN13 RN14
 replace HB:=lh_ (HB.out.trans (HGS.out.mono HB.out.size))
 clear HGS
 clear lx8;have lx8:=fun w' (h:Gr _ w')=>kc0_ I w' (HG0.out.trans h)
 clear lx9;have lx9:=fun w' (h:Gr _ w')=>kc1_ I w' (HG0.out.trans h)
 clear lx10;have lx10:=fun w' (h:Gr _ w')=>kc2_ I w' (HG0.out.trans h)
 clear lx11;have lx11:=fun w' (h:Gr _ w')=>kc3_ I w' (HG0.out.trans h)
 clear lx12;have lx12:=fun w' (h:Gr _ w')=>kc8_ I w' (HG0.out.trans h)
 refine ck Tryz.call66 (fun w' hw=>qa5 u2 _ _ _ om om (RN13.out.gr hw) (RN14.out.gr hw) (lh_ (HT.out.gr (Gr.trans HB.out hw)))) ?_
 iterate 7 refine tk ?_
 refine ck Tryz.call132 (fun w' hw=>qg5 a a (0:Rat) _ HZ4.out om om) ?_
 refine ce2 Tryz.call133 HG0 (fun w' hw=>qn3 a a (0:Rat) _ _ _ _ _ HZ5.out om om (I.out.r 4 rfl (HG0.out.trans hw)) (I.out.r 5 rfl (HG0.out.trans hw)) (I.out.r 6 rfl (HG0.out.trans hw)) (I.out.r 7 rfl (HG0.out.trans hw))) ?_;clear HG0;intro vv15 HG0 HGS ao7 nn7 cc7 ao8 nn8 cc8 RN15 RN16
 replace RN13:=lh_ (RN13.out.gr HGS.out)
 replace RN14:=lh_ (RN14.out.gr HGS.out)
 replace HB:=lh_ (HB.out.trans (HGS.out.mono HB.out.size))
 clear HGS
 clear lx8;have lx8:=fun w' (h:Gr _ w')=>kc0_ I w' (HG0.out.trans h)
 clear lx9;have lx9:=fun w' (h:Gr _ w')=>kc1_ I w' (HG0.out.trans h)
 clear lx10;have lx10:=fun w' (h:Gr _ w')=>kc2_ I w' (HG0.out.trans h)
 clear lx11;have lx11:=fun w' (h:Gr _ w')=>kc3_ I w' (HG0.out.trans h)
 clear lx12;have lx12:=fun w' (h:Gr _ w')=>kc8_ I w' (HG0.out.trans h)
 refine ck Tryz.call66 (fun w' hw=>qa5 (0:Rat) _ _ _ om om (RN15.out.gr hw) (RN16.out.gr hw) (lh_ (HT.out.gr (Gr.trans HB.out hw)))) ?_
 iterate 7 refine tk ?_
 refine ck Tryz.call134 (fun w' hw=>fmul_any a a u6 _ HZ6.out om om) ?_
 refine ce2 Tryz.call135 HG0 (fun w' hw=>qn2 a a u6 _ _ _ _ _ HZ7.out om om (I.out.r 4 rfl (HG0.out.trans hw)) (I.out.r 5 rfl (HG0.out.trans hw)) (I.out.r 6 rfl (HG0.out.trans hw)) (I.out.r 7 rfl (HG0.out.trans hw))) ?_;clear HG0;intro vv17 HG0 HGS ao9 nn9 cc9 ao10 nn10 cc10 RN17 RN18
 replace RN13:=lh_ (RN13.out.gr HGS.out)
 replace RN14:=lh_ (RN14.out.gr HGS.out)
 replace RN15:=lh_ (RN15.out.gr HGS.out)
 replace RN16:=lh_ (RN16.out.gr HGS.out)
 replace HB:=lh_ (HB.out.trans (HGS.out.mono HB.out.size))
 clear HGS
 clear lx8;have lx8:=fun w' (h:Gr _ w')=>kc0_ I w' (HG0.out.trans h)
 clear lx9;have lx9:=fun w' (h:Gr _ w')=>kc1_ I w' (HG0.out.trans h)
 clear lx10;have lx10:=fun w' (h:Gr _ w')=>kc2_ I w' (HG0.out.trans h)
 clear lx11;have lx11:=fun w' (h:Gr _ w')=>kc3_ I w' (HG0.out.trans h)
 clear lx12;have lx12:=fun w' (h:Gr _ w')=>kc8_ I w' (HG0.out.trans h)
 refine ck Tryz.call66 (fun w' hw=>qa5 u6 _ _ _ om om (RN17.out.gr hw) (RN18.out.gr hw) (lh_ (HT.out.gr (Gr.trans HB.out hw)))) ?_
 iterate 6 refine tk ?_
 refine ce2 Tryz.call89 HG0 (fun w' hw=>qs5 a a u1 _ _ _ _ _ HZ8.out om om (I.out.r 4 rfl (HG0.out.trans hw)) (I.out.r 5 rfl (HG0.out.trans hw)) (I.out.r 6 rfl (HG0.out.trans hw)) (I.out.r 7 rfl (HG0.out.trans hw))) ?_;clear HG0;intro vv19 HG0 HGS ao11 nn11 cc11 ao12 nn12 cc12 RN19 RN20
 replace RN13:=lh_ (RN13.out.gr HGS.out)
 replace RN14:=lh_ (RN14.out.gr HGS.out)
 replace RN15:=lh_ (RN15.out.gr HGS.out)
 replace RN16:=lh_ (RN16.out.gr HGS.out)
 replace RN17:=lh_ (RN17.out.gr HGS.out)
 replace RN18:=lh_ (RN18.out.gr HGS.out)
 replace HB:=lh_ (HB.out.trans (HGS.out.mono HB.out.size))
 clear HGS
 clear lx8;have lx8:=fun w' (h:Gr _ w')=>kc0_ I w' (HG0.out.trans h)
 clear lx9;have lx9:=fun w' (h:Gr _ w')=>kc1_ I w' (HG0.out.trans h)
 clear lx10;have lx10:=fun w' (h:Gr _ w')=>kc2_ I w' (HG0.out.trans h)
 clear lx11;have lx11:=fun w' (h:Gr _ w')=>kc3_ I w' (HG0.out.trans h)
 clear lx12;have lx12:=fun w' (h:Gr _ w')=>kc8_ I w' (HG0.out.trans h)
 refine ck Tryz.call66 (fun w' hw=>qa5 u1 _ _ _ om om (RN19.out.gr hw) (RN20.out.gr hw) (lh_ (HT.out.gr (Gr.trans HB.out hw)))) ?_
 iterate 13 refine tk ?_
 refine wpPlan_nil (Y.out _ _ ?_)
 intro G vw6 hg hf
 simp only [puts,Act.put,lA,lB,lC,lD,lE,↓reduceIte,Nat.reduceEqDiff]
 have J:=lh_ (((((((((I.out.gr (HG0.out.trans hg)).ar (RN13.out.gr hg)).ar (RN14.out.gr hg)).ar (RN15.out.gr hg)).ar (RN16.out.gr hg)).ar (RN17.out.gr hg)).ar (RN18.out.gr hg)).ar (RN19.out.gr hg)).ar (RN20.out.gr hg))
 simp only [zq1_,zq2_,zq3_,zq4_,lF,lG] at J
 clear Y T I hg hf HG0 RN13 RN14 RN15 RN16 RN17 RN18 RN19 RN20 lx8 lx9 lx10 lx11 lx12 HB
 go_wp2
 refine kF_ O (((((((((((((J.out).er 16).er 15).er 14).er 13).er 12).er 11).er 10).er 9).er 8).er 7).er 6).er 3) fun Wx7 I=>?_;clear O K
 clear J
 refine wp_cond_false (by rfl) ?_
 refine wp_skip ?_
 show Code.wp _ _ _ _ _
 have HB:=HPb I
 obtain ⟨u9,HZ9⟩:=ex_ (-(a))
 have su9:sz u9≤9:=by rw [← HZ9.out];rw [qn8];omega
 have HZ10:Hid (-(a)=u9):=lh_ (by first|exact ok|exact Rat.sub_self|exact Rat.add_comm _ _|exact Rat.mul_comm _ _|exact Rat.add_assoc _ _ _|exact Rat.mul_assoc _ _ _|exact Rat.mul_add _ _ _|exact Rat.add_sub_cancel|exact Rat.mul_div_cancel (by assumption)|(simp only [← HZ9.out,← HZ6.out,← HZ2.out,← HZ1.out] <;> first|exact ok|exact Rat.sub_self|exact Rat.add_comm _ _|exact Rat.mul_comm _ _|exact Rat.add_assoc _ _ _|exact Rat.mul_assoc _ _ _|exact Rat.mul_add _ _ _|exact Rat.add_sub_cancel|exact Rat.mul_div_cancel (by assumption)))
 have su10:rz u9≤27:=by have e:=HZ10.out;first|omega|(rw [← e];rw [qu1];omega)
 obtain ⟨u11,HZ11⟩:=ex_ (qabs a)
 have su11:sz u11≤9:=by rw [← HZ11.out];rw [qy3];omega
 have HZ12:Hid (qabs a=u11):=lh_ xz7
 have su12:rz u11≤27:=by have e:=HZ12.out;first|omega|(rw [← e];rw [qy0];omega)
 obtain ⟨u13,HZ13⟩:=ex_ (a.floor)
 have su13:wl u13.natAbs≤10:=by rw [← HZ13.out];have:=qg9 a;omega
 have HZ14:Hid (a.floor=u13):=lh_ (by first|exact ok|exact Rat.sub_self|exact Rat.add_comm _ _|exact Rat.mul_comm _ _|exact Rat.add_assoc _ _ _|exact Rat.mul_assoc _ _ _|exact Rat.mul_add _ _ _|exact Rat.add_sub_cancel|exact Rat.mul_div_cancel (by assumption)|(simp only [← HZ13.out,← HZ11.out,← HZ9.out,← HZ6.out,← HZ2.out,← HZ1.out] <;> first|exact ok|exact Rat.sub_self|exact Rat.add_comm _ _|exact Rat.mul_comm _ _|exact Rat.add_assoc _ _ _|exact Rat.mul_assoc _ _ _|exact Rat.mul_add _ _ _|exact Rat.add_sub_cancel|exact Rat.mul_div_cancel (by assumption)))
 have su14:tw u13.natAbs≤28:=by have e:=HZ14.out;first|omega|(rw [← e];have:=qt0 a;omega)
 have hd2:(((itx u13)).toList == ((itx u13)).toList)=true:=by simp
 have lx8:=kc0_ I
 have lx9:=kc1_ I
 have lx10:=kc2_ I
 refine kS fun K O=>?_
 have HG0:Hid (Gr Wx7 Wx7):=lh_ (Gr.refl _)
 refine xg3 fun T Y=>?_
 refine tk2_ ?_
 refine ck Tryz.call45 (fun w' hw=>qk2 a u9 _ HZ9.out) ?_
 refine ce2 Tryz.call136 HG0 (fun w' hw=>qk6 a u9 _ _ _ HZ10.out (I.out.r 3 rfl (HG0.out.trans hw)) (I.out.r 4 rfl (HG0.out.trans hw))) ?_;clear HG0;intro vv21 HG0 HGS ao13 nn13 cc13 ao14 nn14 cc14 RN21 RN22
 replace HB:=lh_ (HB.out.trans (HGS.out.mono HB.out.size))
 clear HGS
 clear lx8;have lx8:=fun w' (h:Gr _ w')=>kc0_ I w' (HG0.out.trans h)
 clear lx9;have lx9:=fun w' (h:Gr _ w')=>kc1_ I w' (HG0.out.trans h)
 clear lx10;have lx10:=fun w' (h:Gr _ w')=>kc2_ I w' (HG0.out.trans h)
 refine ck Tryz.call66 (fun w' hw=>qa5 u9 _ _ _ om om (RN21.out.gr hw) (RN22.out.gr hw) (lh_ (HT.out.gr (Gr.trans HB.out hw)))) ?_
 refine tk3_ ?_
 refine ck Tryz.call137 (fun w' hw=>qs0 a u11 _ HZ11.out) ?_
 refine ce2 Tryz.call138 HG0 (fun w' hw=>qs3 a u11 _ _ _ HZ12.out (I.out.r 3 rfl (HG0.out.trans hw)) (I.out.r 4 rfl (HG0.out.trans hw))) ?_;clear HG0;intro vv23 HG0 HGS ao15 nn15 cc15 ao16 nn16 cc16 RN23 RN24
 replace RN21:=lh_ (RN21.out.gr HGS.out)
 replace RN22:=lh_ (RN22.out.gr HGS.out)
 replace HB:=lh_ (HB.out.trans (HGS.out.mono HB.out.size))
 clear HGS
 clear lx8;have lx8:=fun w' (h:Gr _ w')=>kc0_ I w' (HG0.out.trans h)
 clear lx9;have lx9:=fun w' (h:Gr _ w')=>kc1_ I w' (HG0.out.trans h)
 clear lx10;have lx10:=fun w' (h:Gr _ w')=>kc2_ I w' (HG0.out.trans h)
 refine ck Tryz.call66 (fun w' hw=>qa5 u11 _ _ _ om om (RN23.out.gr hw) (RN24.out.gr hw) (lh_ (HT.out.gr (Gr.trans HB.out hw)))) ?_
 iterate 4 refine tk ?_
 refine ck Tryz.call139 (fun w' hw=>fsign_any a sa _ HSA.out) ?_
 refine ck Tryz.call88 (fun w' hw=>qd5 a sa _ _ _ HSA.out (I.out.r 3 rfl (HG0.out.trans hw)) (I.out.r 4 rfl (HG0.out.trans hw))) ?_
 iterate 6 refine tk ?_
 refine ck Tryz.call140 (fun w' hw=>qa3 a a (0) _ (by have e9:(a) - a=(0:Rat):=xz7;exact qh5 e9) om om) ?_
 iterate 13 refine tk ?_
 refine ck Tryz.call142 (fun w' hw=>qe4 a u13 _ (lh_ HZ13.out) om) ?_
 refine ck Tryz.call141 (fun w' hw=>qj5 u13 _ om (lh_ (HT.out.gr (Gr.trans HB.out hw)))) ?_
 refine ce1 Tryz.call144 HG0 (fun w' hw=>qk5 a u13 _ _ _ (lh_ HZ14.out) om (I.out.r 3 rfl (HG0.out.trans hw)) (I.out.r 4 rfl (HG0.out.trans hw))) ?_;clear HG0;intro vv25 HG0 HGS ao17 nn17 cc17 RN25
 replace RN21:=lh_ (RN21.out.gr HGS.out)
 replace RN22:=lh_ (RN22.out.gr HGS.out)
 replace RN23:=lh_ (RN23.out.gr HGS.out)
 replace RN24:=lh_ (RN24.out.gr HGS.out)
 replace HB:=lh_ (HB.out.trans (HGS.out.mono HB.out.size))
 clear HGS
 clear lx8;have lx8:=fun w' (h:Gr _ w')=>kc0_ I w' (HG0.out.trans h)
 clear lx9;have lx9:=fun w' (h:Gr _ w')=>kc1_ I w' (HG0.out.trans h)
 clear lx10;have lx10:=fun w' (h:Gr _ w')=>kc2_ I w' (HG0.out.trans h)
 refine ck Tryz.call143 (fun w' hw=>qi4 u13 _ _ (RN25.out.gr hw) om) ?_
 refine tk3_ ?_
 refine ck Tryz.call62 (fun w' hw=>worksq_any _ (lh_ (HT.out.gr (Gr.trans HB.out hw)))) ?_
 refine tk ?_
 refine wpPlan_nil (Y.out _ _ ?_)
 intro G vw7 hg hf
 simp only [puts,Act.put,lA,lB,lC,lD,lE,↓reduceIte,Nat.reduceEqDiff]
 have J:=lh_ ((((((I.out.gr (HG0.out.trans hg)).ar (RN21.out.gr hg)).ar (RN22.out.gr hg)).ar (RN23.out.gr hg)).ar (RN24.out.gr hg)).ar (RN25.out.gr hg))
 simp only [zq1_,zq2_,zq3_,zq4_,lF,lG] at J
 clear Y T I hg hf HG0 RN21 RN22 RN23 RN24 RN25 lx8 lx9 lx10 HB
 go_wp2
 refine kF_ O (((((((((((J.out).er 9).er 8).er 7).er 6).er 5).er 4).er 3).er 2).er 1).er 0) fun Wx9 I=>?_;clear O K
 clear J
 clear hd2
 refine wp_ret ?_
 try simp only [Exit.then,Exit.inBlock]
 exact bR ⟨rfl,I.out.1⟩ xj6
theorem sumq_z (bbxn:Bool) (vxn:Value) (kxn:Nat) (fxn:Nat→Nat) (mxn:Nat) (ixn:Int) (vxd:Value) (kxd:Nat) (fxd:Nat→Nat) (mxd:Nat) (bbyn:Bool) (vyn:Value) (kyn:Nat) (fyn:Nat→Nat) (myn:Nat) (iyn:Int) (vyd:Value) (kyd:Nat) (fyd:Nat→Nat) (myd:Nat) (a:Rat)  (sa:Int) (c0:Int) (w:World) (HWxn:Hid (Wa w vxn kxn fxn)) (HFxn:Hid (∀ i,i<kxn→fxn i<4294967296)) (HVxn:Hid (vl fxn kxn=mxn)) (HAxn:Hid ((if bbxn then -((mxn:Nat):Int) else ((mxn:Nat):Int))=ixn)) (HWxd:Hid (Wa w vxd kxd fxd)) (HFxd:Hid (∀ i,i<kxd→fxd i<4294967296)) (HVxd:Hid (vl fxd kxd=mxd)) (HQx:Hid (mkRat ixn (mxd+1)=a)) (HWyn:Hid (Wa w vyn kyn fyn)) (HFyn:Hid (∀ i,i<kyn→fyn i<4294967296)) (HVyn:Hid (vl fyn kyn=myn)) (HAyn:Hid ((if bbyn then -((myn:Nat):Int) else ((myn:Nat):Int))=iyn)) (HWyd:Hid (Wa w vyd kyd fyd)) (HFyd:Hid (∀ i,i<kyd→fyd i<4294967296)) (HVyd:Hid (vl fyd kyd=myd)) (HQy:Hid (mkRat iyn (myd+1)=(0:Rat))) (hkxn:kxn≤8) (hkxd:kxd≤8) (hkyn:kyn≤8) (hkyd:kyd≤8) (ha0:a≠0) (HSA:Hid (sgQ a=sa)) (HC0:Hid (sgQ (a - (0:Rat))=c0)) (hc0:¬ c0=0) (HT:Hid (Tab w)) :
  CB 53 #[.agg #[.bool bbxn,vxn,vxd],.agg #[.bool bbyn,vyn,vyd]] w (.bool true):=by
 obtain ⟨ao_xn,c_xn,rfl⟩:=HWxn.out.slice
 obtain ⟨ao_xd,c_xd,rfl⟩:=HWxd.out.slice
 have hm_xn:wl mxn≤8:=by rw [← HVxn.out];have:=wl_le.2 (vl_lt HFxn.out);omega
 have hm_xd:wl mxd≤8:=by rw [← HVxd.out];have:=wl_le.2 (vl_lt HFxd.out);omega
 have hi_x:wl (Int.natAbs ixn)≤8:=by rw [zsize HAxn.out];exact hm_xn
 have hs_x:sz a≤9:=by rw [← HQx.out];exact sz_great hi_x hm_xd
 have hr_x:rz a≤27:=by rw [← HQx.out];exact qc2 hi_x hm_xd (by decide)
 obtain ⟨ao_yn,c_yn,rfl⟩:=HWyn.out.slice
 obtain ⟨ao_yd,c_yd,rfl⟩:=HWyd.out.slice
 have hm_yn:wl myn≤8:=by rw [← HVyn.out];have:=wl_le.2 (vl_lt HFyn.out);omega
 have hm_yd:wl myd≤8:=by rw [← HVyd.out];have:=wl_le.2 (vl_lt HFyd.out);omega
 have hi_y:wl (Int.natAbs iyn)≤8:=by rw [zsize HAyn.out];exact hm_yn
 have hs_y:sz (0:Rat)≤9:=by rw [← HQy.out];exact sz_great hi_y hm_yd
 have hr_y:rz (0:Rat)≤27:=by rw [← HQy.out];exact qc2 hi_y hm_yd (by decide)
 go_enter Tryz.func53,Tryz.ntmps53
 have I:=lh_ (hp0 w)
 refine kSl fun K O=>?_;go_wp2
 refine kF_ O (al2_ I) fun Wx0 J=>?_;clear O K
 clear I;have I:=J;clear J
 generalize w.heap.size+1=gx1 at *
 refine wp_seq ?_
 have lx0:=kc0_ I
 have lx1:=kc1_ I
 refine kS fun K O=>?_
 have HG0:Hid (Gr Wx0 Wx0):=lh_ (Gr.refl _)
 refine qu6 fun T Y=>?_
 refine tk2_ ?_
 refine qb5 (cs:=#[.bool bbxn,(.slice ao_xn kxn c_xn),(.slice ao_xd kxd c_xd),.bool bbyn,(.slice ao_yn kyn c_yn),(.slice ao_yd kyd c_yd)]) (E:=83) (n:=2) rfl (by rfl) (fun w' hw=>?_) (fun gx3 vv3 hg0 yx3 bx3=>?_)
 ·go_simp
 clear yx3
 replace HG0:=lh_ (HG0.out.trans hg0)
 have HGS:=lh_ hg0;clear hg0
 clear HGS
 have BX3:=lh_ bx3;clear bx3
 clear lx0;have lx0:=kg0_ I HG0
 clear lx1;have lx1:=kg1_ I HG0
 simp only [Act.put,lA,lB,lC]
 refine ck Tryz.call127 (fun w' hw=>qs6 _ _ _ _ _ _ _ _ _ _ _ _ _ _ 8 gx3 _ (BX3.out.gr hw) om om om om) ?_
 refine tk ?_
 refine nzR Y O (fun w2 hg=>I.out.gr (HG0.out.trans hg)) ?_;clear Y T I HG0 BX3 lx0 lx1 O K;intro vw1 I
 refine wp_cond_false (by rfl) ?_
 refine wp_skip ?_
 show Code.wp _ _ _ _ _
 have HB:=HPb I
 have lx0:=kc0_ I
 have lx1:=kc1_ I
 refine kS fun K O=>?_
 have HG0:Hid (Gr vw1 vw1):=lh_ (Gr.refl _)
 refine wp_region_plan 12 [8,9,10,11] [] (fun i=>if i=8 then 5 else if i=9 then 6 else if i=10 then 7 else 8) (fun i=>if i=8 then .cells #[.int .u64 0,.string ⟨#[]⟩,.bool false,.int .u64 0,.string ⟨#[]⟩] 36 else if i=9 then .cells #[.int .u64 0,.string ⟨#[]⟩,.bool false,.int .u64 0,.string ⟨#[]⟩] 36 else if i=10 then .cells #[.bool false,.slice none 0 0,.slice none 0 0] 47 else .cells #[.bool false,.slice none 0 0,.slice none 0 0] 47) [(true,0),(true,2),(true,4),(true,6),(true,1),(true,3),(false,5),(false,7)] (by kernel_rfl) (by kernel_rfl) xj2 (fun i hi=>by cases hi) (fun _ _ _ _ _ h=>h) (fun T Y=>?_)
 iterate 4 refine tk ?_
 refine ck Tryz.call35 (fun w' hw=>qd2 bbxn kxn fxn mxn ixn kxd fxd mxd a ao_xn c_xn ao_xd c_xd w' (lh_ (HWxn.out.gr (Gr.trans HB.out hw))) HFxn HVxn HAxn (lh_ (HWxd.out.gr (Gr.trans HB.out hw))) HFxd HVxd HQx om om om om) ?_
 refine ck Tryz.call35 (fun w' hw=>qd2 bbyn kyn fyn myn iyn kyd fyd myd (0:Rat) ao_yn c_yn ao_yd c_yd w' (lh_ (HWyn.out.gr (Gr.trans HB.out hw))) HFyn HVyn HAyn (lh_ (HWyd.out.gr (Gr.trans HB.out hw))) HFyd HVyd HQy om om om om) ?_
 refine ce2 Tryz.call128 HG0 (fun w' hw=>(qf9 bbxn kxn fxn mxn ixn kxd fxd mxd a ao_xn c_xn ao_xd c_xd w' (lh_ (HWxn.out.gr (Gr.trans HB.out hw))) HFxn HVxn HAxn (lh_ (HWxd.out.gr (Gr.trans HB.out hw))) HFxd HVxd HQx om om om om)) ?_;clear HG0;intro vv4 HG0 HGS ao1 nn1 cc1 ao2 nn2 cc2 RN4 RN5
 replace HB:=lh_ (HB.out.trans (HGS.out.mono HB.out.size))
 clear HGS
 clear lx0;have lx0:=fun w' (h:Gr _ w')=>kc0_ I w' (HG0.out.trans h)
 clear lx1;have lx1:=fun w' (h:Gr _ w')=>kc1_ I w' (HG0.out.trans h)
 refine ce2 Tryz.call128 HG0 (fun w' hw=>(qf9 bbyn kyn fyn myn iyn kyd fyd myd (0:Rat) ao_yn c_yn ao_yd c_yd w' (lh_ (HWyn.out.gr (Gr.trans HB.out hw))) HFyn HVyn HAyn (lh_ (HWyd.out.gr (Gr.trans HB.out hw))) HFyd HVyd HQy om om om om)) ?_;clear HG0;intro vv6 HG0 HGS ao3 nn3 cc3 ao4 nn4 cc4 RN6 RN7
 replace RN4:=lh_ (RN4.out.gr HGS.out)
 replace RN5:=lh_ (RN5.out.gr HGS.out)
 replace HB:=lh_ (HB.out.trans (HGS.out.mono HB.out.size))
 clear HGS
 clear lx0;have lx0:=fun w' (h:Gr _ w')=>kc0_ I w' (HG0.out.trans h)
 clear lx1;have lx1:=fun w' (h:Gr _ w')=>kc1_ I w' (HG0.out.trans h)
 refine wpPlan_nil (Y.out _ _ ?_)
 intro G vw2 hg hf
 simp only [puts,Act.put,lA,lB,lC,lD,lE,↓reduceIte,Nat.reduceEqDiff]
 have J:=lh_ (((((I.out.fr (HG0.out.trans hg) hf (zs:=[(#[.int .u64 0,.string ⟨#[]⟩,.bool false,.int .u64 0,.string ⟨#[]⟩],36),(#[.int .u64 0,.string ⟨#[]⟩,.bool false,.int .u64 0,.string ⟨#[]⟩],36),(#[.bool false,.slice none 0 0,.slice none 0 0],47),(#[.bool false,.slice none 0 0,.slice none 0 0],47)]) rfl (by decide) (by decide)).ar (RN4.out.gr hg)).ar (RN5.out.gr hg)).ar (RN6.out.gr hg)).ar (RN7.out.gr hg))
 simp only [zq1_,zq2_,zq3_,zq4_,lF,lG] at J
 clear Y T I hg hf HG0 RN4 RN5 RN6 RN7 lx0 lx1 HB
 generalize G 8=gx8 at *
 generalize G 9=gx9 at *
 generalize G 10=gx10 at *
 generalize G 11=gx11 at *
 have lx8:=kc2_ J;have fx8:=kf2_ J
 have lx9:=kc3_ J;have fx9:=kf3_ J
 have lx10:=kc4_ J;have fx10:=kf4_ J
 have lx11:=kc5_ J;have fx11:=kf5_ J
 have r0:=Gr.refl vw2
 obtain ⟨d8_9,d9_8⟩:=J.out.ne 2 3 rfl rfl (by decide)
 obtain ⟨d8_10,d10_8⟩:=J.out.ne 2 4 rfl rfl (by decide)
 obtain ⟨d8_11,d11_8⟩:=J.out.ne 2 5 rfl rfl (by decide)
 obtain ⟨d9_10,d10_9⟩:=J.out.ne 3 4 rfl rfl (by decide)
 obtain ⟨d9_11,d11_9⟩:=J.out.ne 3 5 rfl rfl (by decide)
 obtain ⟨d10_11,d11_10⟩:=J.out.ne 4 5 rfl rfl (by decide)
 go_wp2
 refine kO O ?_;clear O K
 clear r0 lx8 fx8 lx9 fx9 lx10 fx10 lx11 fx11 d8_9 d9_8 d8_10 d10_8 d8_11 d11_8 d9_10 d10_9 d9_11 d11_9 d10_11 d11_10
 refine fH (((((((((((((J.out).put2 2 0 rfl).put2 2 2 rfl).put 2 4 _ rfl).put2 3 0 rfl).put2 3 2 rfl).put 3 4 _ rfl).put2 4 0 rfl).put 4 2 _ rfl).put2 5 0 rfl).put 5 2 _ rfl).er 1).er 0) fun Wx3 I=>?_
 clear J
 have lx10:=kc2_ I
 have lx11:=kc3_ I
 refine qb2 fun K O T Y=>?_
 refine tk2_ ?_
 refine ck Tryz.call129 (fun w' hw=>qs4 a (0:Rat) c0 _ _ _ _ _ HC0.out om om (I.out.r 4 rfl hw) (I.out.r 5 rfl hw) (I.out.r 6 rfl hw) (I.out.r 7 rfl hw)) ?_
 refine tk ?_
 refine nz Y I O ?_;clear Y T I lx10 lx11 O K;intro vw3 I
 have lx8:=kc0_ I
 have lx9:=kc1_ I
 refine qa2 fun K O T Y=>?_
 refine tk2_ ?_
 refine ck Tryz.call79 (fun w' hw=>qg_ a (0:Rat) _ zb0_) ?_
 refine tk3_ ?_
 refine nlS Y I fun vw4 J=>?_
 clear Y T I lx8 lx9
 go_wp2
 refine kF_ O ((J.out).aL (vw4.heap.size)) fun Wx5 I=>?_;clear O K
 clear J
 generalize vw4.heap.size=gx12 at *
 have lx11:=kc3_ I
 refine qb2 fun K O T Y=>?_
 refine tk ?_
 refine ck Tryz.call88 (fun w' hw=>qd5 (0:Rat) (0) _ _ _ xj0 (I.out.r 6 rfl hw) (I.out.r 7 rfl hw)) ?_
 refine tk2_ ?_
 refine nz Y I O ?_;clear Y T I lx11 O K;intro vw5 I
 refine wp_seq ?_
 have HB:=HPb I
 have HZ1:Hid (a+(0:Rat)=a):=lh_ zb0_
 have su1:sz a≤19:=by have e:=HZ1.out;first|omega|(rw [← e];have:=qc9 a (0:Rat);omega)
 have HZ2:Hid (a+(0:Rat)=a):=lh_ zb0_
 have su2:rz a≤55:=by have e:=HZ2.out;first|omega|(rw [← e];have:=qA8 a (0:Rat);omega)
 have HZ3:Hid (a - (0:Rat)=a):=lh_ zb0_
 have su3:sz a≤19:=by have e:=HZ3.out;first|omega|(rw [← e];have:=qr2 a (0:Rat);omega)
 have HZ4:Hid (a - (0:Rat)=a):=lh_ zb0_
 have su4:rz a≤55:=by have e:=HZ4.out;first|omega|(rw [← e];have:=qA_ a (0:Rat);omega)
 have HZ5:Hid (a*(0:Rat)=(0:Rat)):=lh_ zb0_
 have su5:sz ((0:Rat))≤18:=by have e:=HZ5.out;first|omega|(rw [← e];have:=sz_mul a (0:Rat);omega)
 have HZ6:Hid (a*(0:Rat)=(0:Rat)):=lh_ zb0_
 have su6:rz ((0:Rat))≤54:=by have e:=HZ6.out;first|omega|(rw [← e];have:=qA9 a (0:Rat);omega)
 have HZ7:Hid (a / (0:Rat)=(0:Rat)):=lh_ zb0_
 have su7:rz ((0:Rat))≤54:=by have e:=HZ7.out;first|omega|(rw [← e];have:=qJ6 a (0:Rat);omega)
 have lx8:=kc0_ I
 have lx9:=kc1_ I
 have lx10:=kc2_ I
 have lx11:=kc3_ I
 have lx12:=kc8_ I
 refine kS fun K O=>?_
 have HG0:Hid (Gr vw5 vw5):=lh_ (Gr.refl _)
 refine xg2 fun T Y=>?_
 refine tk2_ ?_
 refine ck Tryz.call66 (fun w' hw=>qa5 a _ _ _ om om (I.out.r 4 rfl (HG0.out.trans hw)) (I.out.r 5 rfl (HG0.out.trans hw)) (lh_ (HT.out.gr (Gr.trans HB.out hw)))) ?_
 iterate 6 refine tk ?_
 refine ck Tryz.call130 (fun w' hw=>qa_ a (0:Rat) a _ HZ1.out om om) ?_
 refine ce2 Tryz.call131 HG0 (fun w' hw=>qn1 a (0:Rat) a _ _ _ _ _ HZ2.out om om (I.out.r 4 rfl (HG0.out.trans hw)) (I.out.r 5 rfl (HG0.out.trans hw)) (I.out.r 6 rfl (HG0.out.trans hw)) (I.out.r 7 rfl (HG0.out.trans hw))) ?_;clear HG0;intro vv13 HG0 HGS ao5 nn5 cc5 ao6 nn6 cc6 RN13 RN14
 replace HB:=lh_ (HB.out.trans (HGS.out.mono HB.out.size))
 clear HGS
 clear lx8;have lx8:=fun w' (h:Gr _ w')=>kc0_ I w' (HG0.out.trans h)
 clear lx9;have lx9:=fun w' (h:Gr _ w')=>kc1_ I w' (HG0.out.trans h)
 clear lx10;have lx10:=fun w' (h:Gr _ w')=>kc2_ I w' (HG0.out.trans h)
 clear lx11;have lx11:=fun w' (h:Gr _ w')=>kc3_ I w' (HG0.out.trans h)
 clear lx12;have lx12:=fun w' (h:Gr _ w')=>kc8_ I w' (HG0.out.trans h)
 refine ck Tryz.call66 (fun w' hw=>qa5 a _ _ _ om om (RN13.out.gr hw) (RN14.out.gr hw) (lh_ (HT.out.gr (Gr.trans HB.out hw)))) ?_
 iterate 7 refine tk ?_
 refine ck Tryz.call132 (fun w' hw=>qg5 a (0:Rat) a _ HZ3.out om om) ?_
 refine ce2 Tryz.call133 HG0 (fun w' hw=>qn3 a (0:Rat) a _ _ _ _ _ HZ4.out om om (I.out.r 4 rfl (HG0.out.trans hw)) (I.out.r 5 rfl (HG0.out.trans hw)) (I.out.r 6 rfl (HG0.out.trans hw)) (I.out.r 7 rfl (HG0.out.trans hw))) ?_;clear HG0;intro vv15 HG0 HGS ao7 nn7 cc7 ao8 nn8 cc8 RN15 RN16
 replace RN13:=lh_ (RN13.out.gr HGS.out)
 replace RN14:=lh_ (RN14.out.gr HGS.out)
 replace HB:=lh_ (HB.out.trans (HGS.out.mono HB.out.size))
 clear HGS
 clear lx8;have lx8:=fun w' (h:Gr _ w')=>kc0_ I w' (HG0.out.trans h)
 clear lx9;have lx9:=fun w' (h:Gr _ w')=>kc1_ I w' (HG0.out.trans h)
 clear lx10;have lx10:=fun w' (h:Gr _ w')=>kc2_ I w' (HG0.out.trans h)
 clear lx11;have lx11:=fun w' (h:Gr _ w')=>kc3_ I w' (HG0.out.trans h)
 clear lx12;have lx12:=fun w' (h:Gr _ w')=>kc8_ I w' (HG0.out.trans h)
 refine ck Tryz.call66 (fun w' hw=>qa5 a _ _ _ om om (RN15.out.gr hw) (RN16.out.gr hw) (lh_ (HT.out.gr (Gr.trans HB.out hw)))) ?_
 iterate 7 refine tk ?_
 refine ck Tryz.call134 (fun w' hw=>fmul_any a (0:Rat) (0:Rat) _ HZ5.out om om) ?_
 refine ce2 Tryz.call135 HG0 (fun w' hw=>qn2 a (0:Rat) (0:Rat) _ _ _ _ _ HZ6.out om om (I.out.r 4 rfl (HG0.out.trans hw)) (I.out.r 5 rfl (HG0.out.trans hw)) (I.out.r 6 rfl (HG0.out.trans hw)) (I.out.r 7 rfl (HG0.out.trans hw))) ?_;clear HG0;intro vv17 HG0 HGS ao9 nn9 cc9 ao10 nn10 cc10 RN17 RN18
 replace RN13:=lh_ (RN13.out.gr HGS.out)
 replace RN14:=lh_ (RN14.out.gr HGS.out)
 replace RN15:=lh_ (RN15.out.gr HGS.out)
 replace RN16:=lh_ (RN16.out.gr HGS.out)
 replace HB:=lh_ (HB.out.trans (HGS.out.mono HB.out.size))
 clear HGS
 clear lx8;have lx8:=fun w' (h:Gr _ w')=>kc0_ I w' (HG0.out.trans h)
 clear lx9;have lx9:=fun w' (h:Gr _ w')=>kc1_ I w' (HG0.out.trans h)
 clear lx10;have lx10:=fun w' (h:Gr _ w')=>kc2_ I w' (HG0.out.trans h)
 clear lx11;have lx11:=fun w' (h:Gr _ w')=>kc3_ I w' (HG0.out.trans h)
 clear lx12;have lx12:=fun w' (h:Gr _ w')=>kc8_ I w' (HG0.out.trans h)
 refine ck Tryz.call66 (fun w' hw=>qa5 (0:Rat) _ _ _ om om (RN17.out.gr hw) (RN18.out.gr hw) (lh_ (HT.out.gr (Gr.trans HB.out hw)))) ?_
 iterate 6 refine tk ?_
 refine ce2 Tryz.call89 HG0 (fun w' hw=>qs5 a (0:Rat) (0:Rat) _ _ _ _ _ HZ7.out om om (I.out.r 4 rfl (HG0.out.trans hw)) (I.out.r 5 rfl (HG0.out.trans hw)) (I.out.r 6 rfl (HG0.out.trans hw)) (I.out.r 7 rfl (HG0.out.trans hw))) ?_;clear HG0;intro vv19 HG0 HGS ao11 nn11 cc11 ao12 nn12 cc12 RN19 RN20
 replace RN13:=lh_ (RN13.out.gr HGS.out)
 replace RN14:=lh_ (RN14.out.gr HGS.out)
 replace RN15:=lh_ (RN15.out.gr HGS.out)
 replace RN16:=lh_ (RN16.out.gr HGS.out)
 replace RN17:=lh_ (RN17.out.gr HGS.out)
 replace RN18:=lh_ (RN18.out.gr HGS.out)
 replace HB:=lh_ (HB.out.trans (HGS.out.mono HB.out.size))
 clear HGS
 clear lx8;have lx8:=fun w' (h:Gr _ w')=>kc0_ I w' (HG0.out.trans h)
 clear lx9;have lx9:=fun w' (h:Gr _ w')=>kc1_ I w' (HG0.out.trans h)
 clear lx10;have lx10:=fun w' (h:Gr _ w')=>kc2_ I w' (HG0.out.trans h)
 clear lx11;have lx11:=fun w' (h:Gr _ w')=>kc3_ I w' (HG0.out.trans h)
 clear lx12;have lx12:=fun w' (h:Gr _ w')=>kc8_ I w' (HG0.out.trans h)
 refine ck Tryz.call66 (fun w' hw=>qa5 (0:Rat) _ _ _ om om (RN19.out.gr hw) (RN20.out.gr hw) (lh_ (HT.out.gr (Gr.trans HB.out hw)))) ?_
 iterate 13 refine tk ?_
 refine wpPlan_nil (Y.out _ _ ?_)
 intro G vw6 hg hf
 simp only [puts,Act.put,lA,lB,lC,lD,lE,↓reduceIte,Nat.reduceEqDiff]
 have J:=lh_ (((((((((I.out.gr (HG0.out.trans hg)).ar (RN13.out.gr hg)).ar (RN14.out.gr hg)).ar (RN15.out.gr hg)).ar (RN16.out.gr hg)).ar (RN17.out.gr hg)).ar (RN18.out.gr hg)).ar (RN19.out.gr hg)).ar (RN20.out.gr hg))
 simp only [zq1_,zq2_,zq3_,zq4_,lF,lG] at J
 clear Y T I hg hf HG0 RN13 RN14 RN15 RN16 RN17 RN18 RN19 RN20 lx8 lx9 lx10 lx11 lx12 HB
 go_wp2
 refine kF_ O (((((((((((((J.out).er 16).er 15).er 14).er 13).er 12).er 11).er 10).er 9).er 8).er 7).er 6).er 3) fun Wx7 I=>?_;clear O K
 clear J
 refine wp_cond_false (by rfl) ?_
 refine wp_skip ?_
 show Code.wp _ _ _ _ _
 have HB:=HPb I
 obtain ⟨u8,HZ8⟩:=ex_ (-(a))
 have su8:sz u8≤9:=by rw [← HZ8.out];rw [qn8];omega
 have HZ9:Hid (-(a)=u8):=lh_ (by first|exact ok|exact Rat.sub_self|exact Rat.add_comm _ _|exact Rat.mul_comm _ _|exact Rat.add_assoc _ _ _|exact Rat.mul_assoc _ _ _|exact Rat.mul_add _ _ _|exact Rat.add_sub_cancel|exact Rat.mul_div_cancel (by assumption)|(simp only [← HZ8.out] <;> first|exact ok|exact Rat.sub_self|exact Rat.add_comm _ _|exact Rat.mul_comm _ _|exact Rat.add_assoc _ _ _|exact Rat.mul_assoc _ _ _|exact Rat.mul_add _ _ _|exact Rat.add_sub_cancel|exact Rat.mul_div_cancel (by assumption)))
 have su9:rz u8≤27:=by have e:=HZ9.out;first|omega|(rw [← e];rw [qu1];omega)
 obtain ⟨u10,HZ10⟩:=ex_ (qabs a)
 have su10:sz u10≤9:=by rw [← HZ10.out];rw [qy3];omega
 have HZ11:Hid (qabs a=u10):=lh_ xt1
 have su11:rz u10≤27:=by have e:=HZ11.out;first|omega|(rw [← e];rw [qy0];omega)
 have hd1:decide (a=(0:Rat))=false:=decide_eq_false xt1
 have hd2:(c0 == (0))=false:=by have:¬ (c0=0):=xt1;simpa using this
 obtain ⟨u12,HZ12⟩:=ex_ (a.floor)
 have su12:wl u12.natAbs≤10:=by rw [← HZ12.out];have:=qg9 a;omega
 have HZ13:Hid (a.floor=u12):=lh_ (by first|exact ok|exact Rat.sub_self|exact Rat.add_comm _ _|exact Rat.mul_comm _ _|exact Rat.add_assoc _ _ _|exact Rat.mul_assoc _ _ _|exact Rat.mul_add _ _ _|exact Rat.add_sub_cancel|exact Rat.mul_div_cancel (by assumption)|(simp only [← HZ12.out,← HZ10.out,← HZ8.out] <;> first|exact ok|exact Rat.sub_self|exact Rat.add_comm _ _|exact Rat.mul_comm _ _|exact Rat.add_assoc _ _ _|exact Rat.mul_assoc _ _ _|exact Rat.mul_add _ _ _|exact Rat.add_sub_cancel|exact Rat.mul_div_cancel (by assumption)))
 have su13:tw u12.natAbs≤28:=by have e:=HZ13.out;first|omega|(rw [← e];have:=qt0 a;omega)
 have hd3:(((itx u12)).toList == ((itx u12)).toList)=true:=by simp
 have lx8:=kc0_ I
 have lx9:=kc1_ I
 have lx10:=kc2_ I
 refine kS fun K O=>?_
 have HG0:Hid (Gr Wx7 Wx7):=lh_ (Gr.refl _)
 refine xg3 fun T Y=>?_
 refine tk2_ ?_
 refine ck Tryz.call45 (fun w' hw=>qk2 a u8 _ HZ8.out) ?_
 refine ce2 Tryz.call136 HG0 (fun w' hw=>qk6 a u8 _ _ _ HZ9.out (I.out.r 3 rfl (HG0.out.trans hw)) (I.out.r 4 rfl (HG0.out.trans hw))) ?_;clear HG0;intro vv21 HG0 HGS ao13 nn13 cc13 ao14 nn14 cc14 RN21 RN22
 replace HB:=lh_ (HB.out.trans (HGS.out.mono HB.out.size))
 clear HGS
 clear lx8;have lx8:=fun w' (h:Gr _ w')=>kc0_ I w' (HG0.out.trans h)
 clear lx9;have lx9:=fun w' (h:Gr _ w')=>kc1_ I w' (HG0.out.trans h)
 clear lx10;have lx10:=fun w' (h:Gr _ w')=>kc2_ I w' (HG0.out.trans h)
 refine ck Tryz.call66 (fun w' hw=>qa5 u8 _ _ _ om om (RN21.out.gr hw) (RN22.out.gr hw) (lh_ (HT.out.gr (Gr.trans HB.out hw)))) ?_
 refine tk3_ ?_
 refine ck Tryz.call137 (fun w' hw=>qs0 a u10 _ HZ10.out) ?_
 refine ce2 Tryz.call138 HG0 (fun w' hw=>qs3 a u10 _ _ _ HZ11.out (I.out.r 3 rfl (HG0.out.trans hw)) (I.out.r 4 rfl (HG0.out.trans hw))) ?_;clear HG0;intro vv23 HG0 HGS ao15 nn15 cc15 ao16 nn16 cc16 RN23 RN24
 replace RN21:=lh_ (RN21.out.gr HGS.out)
 replace RN22:=lh_ (RN22.out.gr HGS.out)
 replace HB:=lh_ (HB.out.trans (HGS.out.mono HB.out.size))
 clear HGS
 clear lx8;have lx8:=fun w' (h:Gr _ w')=>kc0_ I w' (HG0.out.trans h)
 clear lx9;have lx9:=fun w' (h:Gr _ w')=>kc1_ I w' (HG0.out.trans h)
 clear lx10;have lx10:=fun w' (h:Gr _ w')=>kc2_ I w' (HG0.out.trans h)
 refine ck Tryz.call66 (fun w' hw=>qa5 u10 _ _ _ om om (RN23.out.gr hw) (RN24.out.gr hw) (lh_ (HT.out.gr (Gr.trans HB.out hw)))) ?_
 iterate 4 refine tk ?_
 refine ck Tryz.call139 (fun w' hw=>fsign_any a sa _ HSA.out) ?_
 refine ck Tryz.call88 (fun w' hw=>qd5 a sa _ _ _ HSA.out (I.out.r 3 rfl (HG0.out.trans hw)) (I.out.r 4 rfl (HG0.out.trans hw))) ?_
 iterate 6 refine tk ?_
 refine ck Tryz.call140 (fun w' hw=>qa3 a (0:Rat) c0 _ HC0.out om om) ?_
 iterate 13 refine tk ?_
 refine ck Tryz.call142 (fun w' hw=>qe4 a u12 _ (lh_ HZ12.out) om) ?_
 refine ck Tryz.call141 (fun w' hw=>qj5 u12 _ om (lh_ (HT.out.gr (Gr.trans HB.out hw)))) ?_
 refine ce1 Tryz.call144 HG0 (fun w' hw=>qk5 a u12 _ _ _ (lh_ HZ13.out) om (I.out.r 3 rfl (HG0.out.trans hw)) (I.out.r 4 rfl (HG0.out.trans hw))) ?_;clear HG0;intro vv25 HG0 HGS ao17 nn17 cc17 RN25
 replace RN21:=lh_ (RN21.out.gr HGS.out)
 replace RN22:=lh_ (RN22.out.gr HGS.out)
 replace RN23:=lh_ (RN23.out.gr HGS.out)
 replace RN24:=lh_ (RN24.out.gr HGS.out)
 replace HB:=lh_ (HB.out.trans (HGS.out.mono HB.out.size))
 clear HGS
 clear lx8;have lx8:=fun w' (h:Gr _ w')=>kc0_ I w' (HG0.out.trans h)
 clear lx9;have lx9:=fun w' (h:Gr _ w')=>kc1_ I w' (HG0.out.trans h)
 clear lx10;have lx10:=fun w' (h:Gr _ w')=>kc2_ I w' (HG0.out.trans h)
 refine ck Tryz.call143 (fun w' hw=>qi4 u12 _ _ (RN25.out.gr hw) om) ?_
 refine tk3_ ?_
 refine ck Tryz.call62 (fun w' hw=>worksq_any _ (lh_ (HT.out.gr (Gr.trans HB.out hw)))) ?_
 refine tk ?_
 refine wpPlan_nil (Y.out _ _ ?_)
 intro G vw7 hg hf
 simp only [puts,Act.put,lA,lB,lC,lD,lE,↓reduceIte,Nat.reduceEqDiff]
 have J:=lh_ ((((((I.out.gr (HG0.out.trans hg)).ar (RN21.out.gr hg)).ar (RN22.out.gr hg)).ar (RN23.out.gr hg)).ar (RN24.out.gr hg)).ar (RN25.out.gr hg))
 simp only [zq1_,zq2_,zq3_,zq4_,lF,lG] at J
 clear Y T I hg hf HG0 RN21 RN22 RN23 RN24 RN25 lx8 lx9 lx10 HB
 go_wp2
 refine kF_ O (((((((((((J.out).er 9).er 8).er 7).er 6).er 5).er 4).er 3).er 2).er 1).er 0) fun Wx9 I=>?_;clear O K
 clear J
 clear hd1 hd2 hd3
 refine wp_ret ?_
 try simp only [Exit.then,Exit.inBlock]
 exact bR ⟨rfl,I.out.1⟩ xj6
theorem sumq_zz (bbxn:Bool) (vxn:Value) (kxn:Nat) (fxn:Nat→Nat) (mxn:Nat) (ixn:Int) (vxd:Value) (kxd:Nat) (fxd:Nat→Nat) (mxd:Nat) (bbyn:Bool) (vyn:Value) (kyn:Nat) (fyn:Nat→Nat) (myn:Nat) (iyn:Int) (vyd:Value) (kyd:Nat) (fyd:Nat→Nat) (myd:Nat)  (w:World) (HWxn:Hid (Wa w vxn kxn fxn)) (HFxn:Hid (∀ i,i<kxn→fxn i<4294967296)) (HVxn:Hid (vl fxn kxn=mxn)) (HAxn:Hid ((if bbxn then -((mxn:Nat):Int) else ((mxn:Nat):Int))=ixn)) (HWxd:Hid (Wa w vxd kxd fxd)) (HFxd:Hid (∀ i,i<kxd→fxd i<4294967296)) (HVxd:Hid (vl fxd kxd=mxd)) (HQx:Hid (mkRat ixn (mxd+1)=(0:Rat))) (HWyn:Hid (Wa w vyn kyn fyn)) (HFyn:Hid (∀ i,i<kyn→fyn i<4294967296)) (HVyn:Hid (vl fyn kyn=myn)) (HAyn:Hid ((if bbyn then -((myn:Nat):Int) else ((myn:Nat):Int))=iyn)) (HWyd:Hid (Wa w vyd kyd fyd)) (HFyd:Hid (∀ i,i<kyd→fyd i<4294967296)) (HVyd:Hid (vl fyd kyd=myd)) (HQy:Hid (mkRat iyn (myd+1)=(0:Rat))) (hkxn:kxn≤8) (hkxd:kxd≤8) (hkyn:kyn≤8) (hkyd:kyd≤8)  (HT:Hid (Tab w)) :
  CB 53 #[.agg #[.bool bbxn,vxn,vxd],.agg #[.bool bbyn,vyn,vyd]] w (.bool true):=by
 obtain ⟨ao_xn,c_xn,rfl⟩:=HWxn.out.slice
 obtain ⟨ao_xd,c_xd,rfl⟩:=HWxd.out.slice
 have hm_xn:wl mxn≤8:=by rw [← HVxn.out];have:=wl_le.2 (vl_lt HFxn.out);omega
 have hm_xd:wl mxd≤8:=by rw [← HVxd.out];have:=wl_le.2 (vl_lt HFxd.out);omega
 have hi_x:wl (Int.natAbs ixn)≤8:=by rw [zsize HAxn.out];exact hm_xn
 have hs_x:sz (0:Rat)≤9:=by rw [← HQx.out];exact sz_great hi_x hm_xd
 have hr_x:rz (0:Rat)≤27:=by rw [← HQx.out];exact qc2 hi_x hm_xd (by decide)
 obtain ⟨ao_yn,c_yn,rfl⟩:=HWyn.out.slice
 obtain ⟨ao_yd,c_yd,rfl⟩:=HWyd.out.slice
 have hm_yn:wl myn≤8:=by rw [← HVyn.out];have:=wl_le.2 (vl_lt HFyn.out);omega
 have hm_yd:wl myd≤8:=by rw [← HVyd.out];have:=wl_le.2 (vl_lt HFyd.out);omega
 have hi_y:wl (Int.natAbs iyn)≤8:=by rw [zsize HAyn.out];exact hm_yn
 have hs_y:sz (0:Rat)≤9:=by rw [← HQy.out];exact sz_great hi_y hm_yd
 have hr_y:rz (0:Rat)≤27:=by rw [← HQy.out];exact qc2 hi_y hm_yd (by decide)
 go_enter Tryz.func53,Tryz.ntmps53
 have I:=lh_ (hp0 w)
 refine kSl fun K O=>?_;go_wp2
 refine kF_ O (al2_ I) fun Wx0 J=>?_;clear O K
 clear I;have I:=J;clear J
 generalize w.heap.size+1=gx1 at *
 refine wp_seq ?_
 have lx0:=kc0_ I
 have lx1:=kc1_ I
 refine kS fun K O=>?_
 have HG0:Hid (Gr Wx0 Wx0):=lh_ (Gr.refl _)
 refine qu6 fun T Y=>?_
 refine tk2_ ?_
 refine qb5 (cs:=#[.bool bbxn,(.slice ao_xn kxn c_xn),(.slice ao_xd kxd c_xd),.bool bbyn,(.slice ao_yn kyn c_yn),(.slice ao_yd kyd c_yd)]) (E:=83) (n:=2) rfl (by rfl) (fun w' hw=>?_) (fun gx3 vv3 hg0 yx3 bx3=>?_)
 ·go_simp
 clear yx3
 replace HG0:=lh_ (HG0.out.trans hg0)
 have HGS:=lh_ hg0;clear hg0
 clear HGS
 have BX3:=lh_ bx3;clear bx3
 clear lx0;have lx0:=kg0_ I HG0
 clear lx1;have lx1:=kg1_ I HG0
 simp only [Act.put,lA,lB,lC]
 refine ck Tryz.call127 (fun w' hw=>qs6 _ _ _ _ _ _ _ _ _ _ _ _ _ _ 8 gx3 _ (BX3.out.gr hw) om om om om) ?_
 refine tk ?_
 refine nzR Y O (fun w2 hg=>I.out.gr (HG0.out.trans hg)) ?_;clear Y T I HG0 BX3 lx0 lx1 O K;intro vw1 I
 refine wp_cond_false (by rfl) ?_
 refine wp_skip ?_
 show Code.wp _ _ _ _ _
 have HB:=HPb I
 have lx0:=kc0_ I
 have lx1:=kc1_ I
 refine kS fun K O=>?_
 have HG0:Hid (Gr vw1 vw1):=lh_ (Gr.refl _)
 refine wp_region_plan 12 [8,9,10,11] [] (fun i=>if i=8 then 5 else if i=9 then 6 else if i=10 then 7 else 8) (fun i=>if i=8 then .cells #[.int .u64 0,.string ⟨#[]⟩,.bool false,.int .u64 0,.string ⟨#[]⟩] 36 else if i=9 then .cells #[.int .u64 0,.string ⟨#[]⟩,.bool false,.int .u64 0,.string ⟨#[]⟩] 36 else if i=10 then .cells #[.bool false,.slice none 0 0,.slice none 0 0] 47 else .cells #[.bool false,.slice none 0 0,.slice none 0 0] 47) [(true,0),(true,2),(true,4),(true,6),(true,1),(true,3),(false,5),(false,7)] (by kernel_rfl) (by kernel_rfl) xj2 (fun i hi=>by cases hi) (fun _ _ _ _ _ h=>h) (fun T Y=>?_)
 iterate 4 refine tk ?_
 refine ck Tryz.call35 (fun w' hw=>qd2 bbxn kxn fxn mxn ixn kxd fxd mxd (0:Rat) ao_xn c_xn ao_xd c_xd w' (lh_ (HWxn.out.gr (Gr.trans HB.out hw))) HFxn HVxn HAxn (lh_ (HWxd.out.gr (Gr.trans HB.out hw))) HFxd HVxd HQx om om om om) ?_
 refine ck Tryz.call35 (fun w' hw=>qd2 bbyn kyn fyn myn iyn kyd fyd myd (0:Rat) ao_yn c_yn ao_yd c_yd w' (lh_ (HWyn.out.gr (Gr.trans HB.out hw))) HFyn HVyn HAyn (lh_ (HWyd.out.gr (Gr.trans HB.out hw))) HFyd HVyd HQy om om om om) ?_
 refine ce2 Tryz.call128 HG0 (fun w' hw=>(qf9 bbxn kxn fxn mxn ixn kxd fxd mxd (0:Rat) ao_xn c_xn ao_xd c_xd w' (lh_ (HWxn.out.gr (Gr.trans HB.out hw))) HFxn HVxn HAxn (lh_ (HWxd.out.gr (Gr.trans HB.out hw))) HFxd HVxd HQx om om om om)) ?_;clear HG0;intro vv4 HG0 HGS ao1 nn1 cc1 ao2 nn2 cc2 RN4 RN5
 replace HB:=lh_ (HB.out.trans (HGS.out.mono HB.out.size))
 clear HGS
 clear lx0;have lx0:=fun w' (h:Gr _ w')=>kc0_ I w' (HG0.out.trans h)
 clear lx1;have lx1:=fun w' (h:Gr _ w')=>kc1_ I w' (HG0.out.trans h)
 refine ce2 Tryz.call128 HG0 (fun w' hw=>(qf9 bbyn kyn fyn myn iyn kyd fyd myd (0:Rat) ao_yn c_yn ao_yd c_yd w' (lh_ (HWyn.out.gr (Gr.trans HB.out hw))) HFyn HVyn HAyn (lh_ (HWyd.out.gr (Gr.trans HB.out hw))) HFyd HVyd HQy om om om om)) ?_;clear HG0;intro vv6 HG0 HGS ao3 nn3 cc3 ao4 nn4 cc4 RN6 RN7
 replace RN4:=lh_ (RN4.out.gr HGS.out)
 replace RN5:=lh_ (RN5.out.gr HGS.out)
 replace HB:=lh_ (HB.out.trans (HGS.out.mono HB.out.size))
 clear HGS
 clear lx0;have lx0:=fun w' (h:Gr _ w')=>kc0_ I w' (HG0.out.trans h)
 clear lx1;have lx1:=fun w' (h:Gr _ w')=>kc1_ I w' (HG0.out.trans h)
 refine wpPlan_nil (Y.out _ _ ?_)
 intro G vw2 hg hf
 simp only [puts,Act.put,lA,lB,lC,lD,lE,↓reduceIte,Nat.reduceEqDiff]
 have J:=lh_ (((((I.out.fr (HG0.out.trans hg) hf (zs:=[(#[.int .u64 0,.string ⟨#[]⟩,.bool false,.int .u64 0,.string ⟨#[]⟩],36),(#[.int .u64 0,.string ⟨#[]⟩,.bool false,.int .u64 0,.string ⟨#[]⟩],36),(#[.bool false,.slice none 0 0,.slice none 0 0],47),(#[.bool false,.slice none 0 0,.slice none 0 0],47)]) rfl (by decide) (by decide)).ar (RN4.out.gr hg)).ar (RN5.out.gr hg)).ar (RN6.out.gr hg)).ar (RN7.out.gr hg))
 simp only [zq1_,zq2_,zq3_,zq4_,lF,lG] at J
 clear Y T I hg hf HG0 RN4 RN5 RN6 RN7 lx0 lx1 HB
 generalize G 8=gx8 at *
 generalize G 9=gx9 at *
 generalize G 10=gx10 at *
 generalize G 11=gx11 at *
 have lx8:=kc2_ J;have fx8:=kf2_ J
 have lx9:=kc3_ J;have fx9:=kf3_ J
 have lx10:=kc4_ J;have fx10:=kf4_ J
 have lx11:=kc5_ J;have fx11:=kf5_ J
 have r0:=Gr.refl vw2
 obtain ⟨d8_9,d9_8⟩:=J.out.ne 2 3 rfl rfl (by decide)
 obtain ⟨d8_10,d10_8⟩:=J.out.ne 2 4 rfl rfl (by decide)
 obtain ⟨d8_11,d11_8⟩:=J.out.ne 2 5 rfl rfl (by decide)
 obtain ⟨d9_10,d10_9⟩:=J.out.ne 3 4 rfl rfl (by decide)
 obtain ⟨d9_11,d11_9⟩:=J.out.ne 3 5 rfl rfl (by decide)
 obtain ⟨d10_11,d11_10⟩:=J.out.ne 4 5 rfl rfl (by decide)
 go_wp2
 refine kO O ?_;clear O K
 clear r0 lx8 fx8 lx9 fx9 lx10 fx10 lx11 fx11 d8_9 d9_8 d8_10 d10_8 d8_11 d11_8 d9_10 d10_9 d9_11 d11_9 d10_11 d11_10
 refine fH (((((((((((((J.out).put2 2 0 rfl).put2 2 2 rfl).put 2 4 _ rfl).put2 3 0 rfl).put2 3 2 rfl).put 3 4 _ rfl).put2 4 0 rfl).put 4 2 _ rfl).put2 5 0 rfl).put 5 2 _ rfl).er 1).er 0) fun Wx3 I=>?_
 clear J
 have lx10:=kc2_ I
 have lx11:=kc3_ I
 refine qb2 fun K O T Y=>?_
 refine tk2_ ?_
 refine ck Tryz.call129 (fun w' hw=>qs4 (0:Rat) (0:Rat) (0) _ _ _ _ _ xA1 om om (I.out.r 4 rfl hw) (I.out.r 5 rfl hw) (I.out.r 6 rfl hw) (I.out.r 7 rfl hw)) ?_
 refine tk ?_
 refine nz Y I O ?_;clear Y T I lx10 lx11 O K;intro vw3 I
 have lx8:=kc0_ I
 have lx9:=kc1_ I
 refine qa2 fun K O T Y=>?_
 refine tk2_ ?_
 refine ck Tryz.call79 (fun w' hw=>qg_ (0:Rat) (0:Rat) _ zb0_) ?_
 refine tk3_ ?_
 refine nlS Y I fun vw4 J=>?_
 clear Y T I lx8 lx9
 go_wp2
 refine kF_ O ((J.out).aL (vw4.heap.size)) fun Wx5 I=>?_;clear O K
 clear J
 generalize vw4.heap.size=gx12 at *
 have lx11:=kc3_ I
 refine qb2 fun K O T Y=>?_
 refine tk ?_
 refine ck Tryz.call88 (fun w' hw=>qd5 (0:Rat) (0) _ _ _ xj0 (I.out.r 6 rfl hw) (I.out.r 7 rfl hw)) ?_
 refine tk2_ ?_
 refine nz Y I O ?_;clear Y T I lx11 O K;intro vw5 I
 refine wp_seq ?_
 have HB:=HPb I
 have HZ1:Hid ((0:Rat)+(0:Rat)=(0:Rat)):=lh_ zb0_
 have su1:sz ((0:Rat))≤19:=by have e:=HZ1.out;first|omega|(rw [← e];have:=qc9 (0:Rat) (0:Rat);omega)
 have HZ2:Hid ((0:Rat)+(0:Rat)=(0:Rat)):=lh_ zb0_
 have su2:rz ((0:Rat))≤55:=by have e:=HZ2.out;first|omega|(rw [← e];have:=qA8 (0:Rat) (0:Rat);omega)
 have HZ3:Hid ((0:Rat) - (0:Rat)=(0:Rat)):=lh_ zb0_
 have su3:sz ((0:Rat))≤19:=by have e:=HZ3.out;first|omega|(rw [← e];have:=qr2 (0:Rat) (0:Rat);omega)
 have HZ4:Hid ((0:Rat) - (0:Rat)=(0:Rat)):=lh_ zb0_
 have su4:rz ((0:Rat))≤55:=by have e:=HZ4.out;first|omega|(rw [← e];have:=qA_ (0:Rat) (0:Rat);omega)
 have HZ5:Hid ((0:Rat)*(0:Rat)=(0:Rat)):=lh_ zb0_
 have su5:sz ((0:Rat))≤18:=by have e:=HZ5.out;first|omega|(rw [← e];have:=sz_mul (0:Rat) (0:Rat);omega)
 have HZ6:Hid ((0:Rat)*(0:Rat)=(0:Rat)):=lh_ zb0_
 have su6:rz ((0:Rat))≤54:=by have e:=HZ6.out;first|omega|(rw [← e];have:=qA9 (0:Rat) (0:Rat);omega)
 have HZ7:Hid ((0:Rat) / (0:Rat)=(0:Rat)):=lh_ zb0_
 have su7:rz ((0:Rat))≤54:=by have e:=HZ7.out;first|omega|(rw [← e];have:=qJ6 (0:Rat) (0:Rat);omega)
 have lx8:=kc0_ I
 have lx9:=kc1_ I
 have lx10:=kc2_ I
 have lx11:=kc3_ I
 have lx12:=kc8_ I
 refine kS fun K O=>?_
 have HG0:Hid (Gr vw5 vw5):=lh_ (Gr.refl _)
 refine xg2 fun T Y=>?_
 refine tk2_ ?_
 refine ck Tryz.call66 (fun w' hw=>qa5 (0:Rat) _ _ _ om om (I.out.r 4 rfl (HG0.out.trans hw)) (I.out.r 5 rfl (HG0.out.trans hw)) (lh_ (HT.out.gr (Gr.trans HB.out hw)))) ?_
 iterate 6 refine tk ?_
 refine ck Tryz.call130 (fun w' hw=>qa_ (0:Rat) (0:Rat) (0:Rat) _ HZ1.out om om) ?_
 refine ce2 Tryz.call131 HG0 (fun w' hw=>qn1 (0:Rat) (0:Rat) (0:Rat) _ _ _ _ _ HZ2.out om om (I.out.r 4 rfl (HG0.out.trans hw)) (I.out.r 5 rfl (HG0.out.trans hw)) (I.out.r 6 rfl (HG0.out.trans hw)) (I.out.r 7 rfl (HG0.out.trans hw))) ?_;clear HG0;intro vv13 HG0 HGS ao5 nn5 cc5 ao6 nn6 cc6 RN13 RN14
 replace HB:=lh_ (HB.out.trans (HGS.out.mono HB.out.size))
 clear HGS
 clear lx8;have lx8:=fun w' (h:Gr _ w')=>kc0_ I w' (HG0.out.trans h)
 clear lx9;have lx9:=fun w' (h:Gr _ w')=>kc1_ I w' (HG0.out.trans h)
 clear lx10;have lx10:=fun w' (h:Gr _ w')=>kc2_ I w' (HG0.out.trans h)
 clear lx11;have lx11:=fun w' (h:Gr _ w')=>kc3_ I w' (HG0.out.trans h)
 clear lx12;have lx12:=fun w' (h:Gr _ w')=>kc8_ I w' (HG0.out.trans h)
 refine ck Tryz.call66 (fun w' hw=>qa5 (0:Rat) _ _ _ om om (RN13.out.gr hw) (RN14.out.gr hw) (lh_ (HT.out.gr (Gr.trans HB.out hw)))) ?_
 iterate 7 refine tk ?_
 refine ck Tryz.call132 (fun w' hw=>qg5 (0:Rat) (0:Rat) (0:Rat) _ HZ3.out om om) ?_
 refine ce2 Tryz.call133 HG0 (fun w' hw=>qn3 (0:Rat) (0:Rat) (0:Rat) _ _ _ _ _ HZ4.out om om (I.out.r 4 rfl (HG0.out.trans hw)) (I.out.r 5 rfl (HG0.out.trans hw)) (I.out.r 6 rfl (HG0.out.trans hw)) (I.out.r 7 rfl (HG0.out.trans hw))) ?_;clear HG0;intro vv15 HG0 HGS ao7 nn7 cc7 ao8 nn8 cc8 RN15 RN16
 replace RN13:=lh_ (RN13.out.gr HGS.out)
 replace RN14:=lh_ (RN14.out.gr HGS.out)
 replace HB:=lh_ (HB.out.trans (HGS.out.mono HB.out.size))
 clear HGS
 clear lx8;have lx8:=fun w' (h:Gr _ w')=>kc0_ I w' (HG0.out.trans h)
 clear lx9;have lx9:=fun w' (h:Gr _ w')=>kc1_ I w' (HG0.out.trans h)
 clear lx10;have lx10:=fun w' (h:Gr _ w')=>kc2_ I w' (HG0.out.trans h)
 clear lx11;have lx11:=fun w' (h:Gr _ w')=>kc3_ I w' (HG0.out.trans h)
 clear lx12;have lx12:=fun w' (h:Gr _ w')=>kc8_ I w' (HG0.out.trans h)
 refine ck Tryz.call66 (fun w' hw=>qa5 (0:Rat) _ _ _ om om (RN15.out.gr hw) (RN16.out.gr hw) (lh_ (HT.out.gr (Gr.trans HB.out hw)))) ?_
 iterate 7 refine tk ?_
 refine ck Tryz.call134 (fun w' hw=>fmul_any (0:Rat) (0:Rat) (0:Rat) _ HZ5.out om om) ?_
 refine ce2 Tryz.call135 HG0 (fun w' hw=>qn2 (0:Rat) (0:Rat) (0:Rat) _ _ _ _ _ HZ6.out om om (I.out.r 4 rfl (HG0.out.trans hw)) (I.out.r 5 rfl (HG0.out.trans hw)) (I.out.r 6 rfl (HG0.out.trans hw)) (I.out.r 7 rfl (HG0.out.trans hw))) ?_;clear HG0;intro vv17 HG0 HGS ao9 nn9 cc9 ao10 nn10 cc10 RN17 RN18
 replace RN13:=lh_ (RN13.out.gr HGS.out)
 replace RN14:=lh_ (RN14.out.gr HGS.out)
 replace RN15:=lh_ (RN15.out.gr HGS.out)
 replace RN16:=lh_ (RN16.out.gr HGS.out)
 replace HB:=lh_ (HB.out.trans (HGS.out.mono HB.out.size))
 clear HGS
 clear lx8;have lx8:=fun w' (h:Gr _ w')=>kc0_ I w' (HG0.out.trans h)
 clear lx9;have lx9:=fun w' (h:Gr _ w')=>kc1_ I w' (HG0.out.trans h)
 clear lx10;have lx10:=fun w' (h:Gr _ w')=>kc2_ I w' (HG0.out.trans h)
 clear lx11;have lx11:=fun w' (h:Gr _ w')=>kc3_ I w' (HG0.out.trans h)
 clear lx12;have lx12:=fun w' (h:Gr _ w')=>kc8_ I w' (HG0.out.trans h)
 refine ck Tryz.call66 (fun w' hw=>qa5 (0:Rat) _ _ _ om om (RN17.out.gr hw) (RN18.out.gr hw) (lh_ (HT.out.gr (Gr.trans HB.out hw)))) ?_
 iterate 6 refine tk ?_
 refine ce2 Tryz.call89 HG0 (fun w' hw=>qs5 (0:Rat) (0:Rat) (0:Rat) _ _ _ _ _ HZ7.out om om (I.out.r 4 rfl (HG0.out.trans hw)) (I.out.r 5 rfl (HG0.out.trans hw)) (I.out.r 6 rfl (HG0.out.trans hw)) (I.out.r 7 rfl (HG0.out.trans hw))) ?_;clear HG0;intro vv19 HG0 HGS ao11 nn11 cc11 ao12 nn12 cc12 RN19 RN20
 replace RN13:=lh_ (RN13.out.gr HGS.out)
 replace RN14:=lh_ (RN14.out.gr HGS.out)
 replace RN15:=lh_ (RN15.out.gr HGS.out)
 replace RN16:=lh_ (RN16.out.gr HGS.out)
 replace RN17:=lh_ (RN17.out.gr HGS.out)
 replace RN18:=lh_ (RN18.out.gr HGS.out)
 replace HB:=lh_ (HB.out.trans (HGS.out.mono HB.out.size))
 clear HGS
 clear lx8;have lx8:=fun w' (h:Gr _ w')=>kc0_ I w' (HG0.out.trans h)
 clear lx9;have lx9:=fun w' (h:Gr _ w')=>kc1_ I w' (HG0.out.trans h)
 clear lx10;have lx10:=fun w' (h:Gr _ w')=>kc2_ I w' (HG0.out.trans h)
 clear lx11;have lx11:=fun w' (h:Gr _ w')=>kc3_ I w' (HG0.out.trans h)
 clear lx12;have lx12:=fun w' (h:Gr _ w')=>kc8_ I w' (HG0.out.trans h)
 refine ck Tryz.call66 (fun w' hw=>qa5 (0:Rat) _ _ _ om om (RN19.out.gr hw) (RN20.out.gr hw) (lh_ (HT.out.gr (Gr.trans HB.out hw)))) ?_
 iterate 13 refine tk ?_
 refine wpPlan_nil (Y.out _ _ ?_)
 intro G vw6 hg hf
 simp only [puts,Act.put,lA,lB,lC,lD,lE,↓reduceIte,Nat.reduceEqDiff]
 have J:=lh_ (((((((((I.out.gr (HG0.out.trans hg)).ar (RN13.out.gr hg)).ar (RN14.out.gr hg)).ar (RN15.out.gr hg)).ar (RN16.out.gr hg)).ar (RN17.out.gr hg)).ar (RN18.out.gr hg)).ar (RN19.out.gr hg)).ar (RN20.out.gr hg))
 simp only [zq1_,zq2_,zq3_,zq4_,lF,lG] at J
 clear Y T I hg hf HG0 RN13 RN14 RN15 RN16 RN17 RN18 RN19 RN20 lx8 lx9 lx10 lx11 lx12 HB
 go_wp2
 refine kF_ O (((((((((((((J.out).er 16).er 15).er 14).er 13).er 12).er 11).er 10).er 9).er 8).er 7).er 6).er 3) fun Wx7 I=>?_;clear O K
 clear J
 refine wp_cond_false (by rfl) ?_
 refine wp_skip ?_
 show Code.wp _ _ _ _ _
 have HB:=HPb I
 have HZ8:Hid (-(0:Rat)=(0:Rat)):=lh_ zb0_
 have su8:sz ((0:Rat))≤9:=by have e:=HZ8.out;first|omega|(rw [← e];rw [qn8];omega)
 have HZ9:Hid (-(0:Rat)=(0:Rat)):=lh_ zb0_
 have su9:rz ((0:Rat))≤27:=by have e:=HZ9.out;first|omega|(rw [← e];rw [qu1];omega)
 have HZ10:Hid (qabs (0:Rat)=(0:Rat)):=lh_ zb0_
 have su10:sz ((0:Rat))≤9:=by have e:=HZ10.out;first|omega|(rw [← e];rw [qy3];omega)
 have HZ11:Hid (qabs (0:Rat)=(0:Rat)):=lh_ zb0_
 have su11:rz ((0:Rat))≤27:=by have e:=HZ11.out;first|omega|(rw [← e];rw [qy0];omega)
 have HZ12:Hid (((0:Rat)).floor=0):=lh_ zb0_
 have su12:wl (Int.natAbs (0))≤10:=by have e:=HZ12.out;first|omega|(rw [← e];have:=qg9 ((0:Rat));omega)|exact wl_le.2 (by decide +kernel)
 have HZ13:Hid (((0:Rat)).floor=0):=lh_ zb0_
 have su13:tw (Int.natAbs (0))≤28:=by have e:=HZ13.out;first|omega|(rw [← e];have:=qt0 ((0:Rat));omega)|exact qe_.2 (by decide +kernel)
 have hd1:(((itx (0))).toList == ((itx (0))).toList)=true:=by simp
 have lx8:=kc0_ I
 have lx9:=kc1_ I
 have lx10:=kc2_ I
 refine kS fun K O=>?_
 have HG0:Hid (Gr Wx7 Wx7):=lh_ (Gr.refl _)
 refine xg3 fun T Y=>?_
 refine tk2_ ?_
 refine ck Tryz.call45 (fun w' hw=>qk2 (0:Rat) (0:Rat) _ HZ8.out) ?_
 refine ce2 Tryz.call136 HG0 (fun w' hw=>qk6 (0:Rat) (0:Rat) _ _ _ HZ9.out (I.out.r 3 rfl (HG0.out.trans hw)) (I.out.r 4 rfl (HG0.out.trans hw))) ?_;clear HG0;intro vv21 HG0 HGS ao13 nn13 cc13 ao14 nn14 cc14 RN21 RN22
 replace HB:=lh_ (HB.out.trans (HGS.out.mono HB.out.size))
 clear HGS
 clear lx8;have lx8:=fun w' (h:Gr _ w')=>kc0_ I w' (HG0.out.trans h)
 clear lx9;have lx9:=fun w' (h:Gr _ w')=>kc1_ I w' (HG0.out.trans h)
 clear lx10;have lx10:=fun w' (h:Gr _ w')=>kc2_ I w' (HG0.out.trans h)
 refine ck Tryz.call66 (fun w' hw=>qa5 (0:Rat) _ _ _ om om (RN21.out.gr hw) (RN22.out.gr hw) (lh_ (HT.out.gr (Gr.trans HB.out hw)))) ?_
 refine tk3_ ?_
 refine ck Tryz.call137 (fun w' hw=>qs0 (0:Rat) (0:Rat) _ HZ10.out) ?_
 refine ce2 Tryz.call138 HG0 (fun w' hw=>qs3 (0:Rat) (0:Rat) _ _ _ HZ11.out (I.out.r 3 rfl (HG0.out.trans hw)) (I.out.r 4 rfl (HG0.out.trans hw))) ?_;clear HG0;intro vv23 HG0 HGS ao15 nn15 cc15 ao16 nn16 cc16 RN23 RN24
 replace RN21:=lh_ (RN21.out.gr HGS.out)
 replace RN22:=lh_ (RN22.out.gr HGS.out)
 replace HB:=lh_ (HB.out.trans (HGS.out.mono HB.out.size))
 clear HGS
 clear lx8;have lx8:=fun w' (h:Gr _ w')=>kc0_ I w' (HG0.out.trans h)
 clear lx9;have lx9:=fun w' (h:Gr _ w')=>kc1_ I w' (HG0.out.trans h)
 clear lx10;have lx10:=fun w' (h:Gr _ w')=>kc2_ I w' (HG0.out.trans h)
 refine ck Tryz.call66 (fun w' hw=>qa5 (0:Rat) _ _ _ om om (RN23.out.gr hw) (RN24.out.gr hw) (lh_ (HT.out.gr (Gr.trans HB.out hw)))) ?_
 iterate 4 refine tk ?_
 refine ck Tryz.call139 (fun w' hw=>fsign_any (0:Rat) (0) _ xj0) ?_
 refine ck Tryz.call88 (fun w' hw=>qd5 (0:Rat) (0) _ _ _ xj0 (I.out.r 3 rfl (HG0.out.trans hw)) (I.out.r 4 rfl (HG0.out.trans hw))) ?_
 iterate 6 refine tk ?_
 refine ck Tryz.call140 (fun w' hw=>qa3 (0:Rat) (0:Rat) (0) _ xA1 om om) ?_
 iterate 13 refine tk ?_
 refine ck Tryz.call142 (fun w' hw=>qe4 (0:Rat) (0) _ (lh_ HZ12.out) om) ?_
 refine ck Tryz.call141 (fun w' hw=>qj5 (0) _ om (lh_ (HT.out.gr (Gr.trans HB.out hw)))) ?_
 refine ce1 Tryz.call144 HG0 (fun w' hw=>qk5 (0:Rat) (0) _ _ _ (lh_ HZ13.out) om (I.out.r 3 rfl (HG0.out.trans hw)) (I.out.r 4 rfl (HG0.out.trans hw))) ?_;clear HG0;intro vv25 HG0 HGS ao17 nn17 cc17 RN25
 replace RN21:=lh_ (RN21.out.gr HGS.out)
 replace RN22:=lh_ (RN22.out.gr HGS.out)
 replace RN23:=lh_ (RN23.out.gr HGS.out)
 replace RN24:=lh_ (RN24.out.gr HGS.out)
 replace HB:=lh_ (HB.out.trans (HGS.out.mono HB.out.size))
 clear HGS
 clear lx8;have lx8:=fun w' (h:Gr _ w')=>kc0_ I w' (HG0.out.trans h)
 clear lx9;have lx9:=fun w' (h:Gr _ w')=>kc1_ I w' (HG0.out.trans h)
 clear lx10;have lx10:=fun w' (h:Gr _ w')=>kc2_ I w' (HG0.out.trans h)
 refine ck Tryz.call143 (fun w' hw=>qi4 (0) _ _ (RN25.out.gr hw) om) ?_
 refine tk3_ ?_
 refine ck Tryz.call62 (fun w' hw=>worksq_any _ (lh_ (HT.out.gr (Gr.trans HB.out hw)))) ?_
 refine tk ?_
 refine wpPlan_nil (Y.out _ _ ?_)
 intro G vw7 hg hf
 simp only [puts,Act.put,lA,lB,lC,lD,lE,↓reduceIte,Nat.reduceEqDiff]
 have J:=lh_ ((((((I.out.gr (HG0.out.trans hg)).ar (RN21.out.gr hg)).ar (RN22.out.gr hg)).ar (RN23.out.gr hg)).ar (RN24.out.gr hg)).ar (RN25.out.gr hg))
 simp only [zq1_,zq2_,zq3_,zq4_,lF,lG] at J
 clear Y T I hg hf HG0 RN21 RN22 RN23 RN24 RN25 lx8 lx9 lx10 HB
 go_wp2
 refine kF_ O (((((((((((J.out).er 9).er 8).er 7).er 6).er 5).er 4).er 3).er 2).er 1).er 0) fun Wx9 I=>?_;clear O K
 clear J
 clear hd1
 refine wp_ret ?_
 try simp only [Exit.then,Exit.inBlock]
 exact bR ⟨rfl,I.out.1⟩ xj6
end Go.Proofs.YtobojnodohjiaaaGreatDoor
