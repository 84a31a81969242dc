
/- FracsField: the law's walk. -/
import Derived.Test.YtobojnodohjiaaaGreatDoorWorksQ
import Derived.Test.YtobojnodohjiaaaGreatDoorFieldP
set_option maxRecDepth 100000
set_option maxHeartbeats 16000000
set_option linter.unusedVariables false
set_option linter.unusedSimpArgs false
namespace Go.Proofs.YtobojnodohjiaaaGreatDoor
open Go.RowKit
attribute [local go_sem ↓] Go.wp_at_zero Go.wp_at_succ
attribute [local go_sem ↓] eq_nat eq_nat_zero eq_int eq_frac eq_frac_zero
attribute [local go_sem] Instr.field asAgg
theorem fieldq_ne (bbxn:Bool) (vxn:Value) (kxn:Nat) (fxn:Nat→Nat) (mxn:Nat) (ixn:Int) (vxd:Value) (kxd:Nat) (fxd:Nat→Nat) (mxd:Nat) (bbyn:Bool) (vyn:Value) (kyn:Nat) (fyn:Nat→Nat) (myn:Nat) (iyn:Int) (vyd:Value) (kyd:Nat) (fyd:Nat→Nat) (myd:Nat) (bbzn:Bool) (vzn:Value) (kzn:Nat) (fzn:Nat→Nat) (mzn:Nat) (izn:Int) (vzd:Value) (kzd:Nat) (fzd:Nat→Nat) (mzd:Nat) (a b c:Rat) (sc c0 d0 p:Int) (sb:Int) (w:World) (HWxn:Hid (Wa w vxn kxn fxn)) (HFxn:Hid (∀ i,i<kxn→fxn i<4294967296)) (HVxn:Hid (vl fxn kxn=mxn)) (HAxn:Hid ((if bbxn then -((mxn:Nat):Int) else ((mxn:Nat):Int))=ixn)) (HWxd:Hid (Wa w vxd kxd fxd)) (HFxd:Hid (∀ i,i<kxd→fxd i<4294967296)) (HVxd:Hid (vl fxd kxd=mxd)) (HQx:Hid (mkRat ixn (mxd+1)=a)) (HWyn:Hid (Wa w vyn kyn fyn)) (HFyn:Hid (∀ i,i<kyn→fyn i<4294967296)) (HVyn:Hid (vl fyn kyn=myn)) (HAyn:Hid ((if bbyn then -((myn:Nat):Int) else ((myn:Nat):Int))=iyn)) (HWyd:Hid (Wa w vyd kyd fyd)) (HFyd:Hid (∀ i,i<kyd→fyd i<4294967296)) (HVyd:Hid (vl fyd kyd=myd)) (HQy:Hid (mkRat iyn (myd+1)=b)) (HWzn:Hid (Wa w vzn kzn fzn)) (HFzn:Hid (∀ i,i<kzn→fzn i<4294967296)) (HVzn:Hid (vl fzn kzn=mzn)) (HAzn:Hid ((if bbzn then -((mzn:Nat):Int) else ((mzn:Nat):Int))=izn)) (HWzd:Hid (Wa w vzd kzd fzd)) (HFzd:Hid (∀ i,i<kzd→fzd i<4294967296)) (HVzd:Hid (vl fzd kzd=mzd)) (HQz:Hid (mkRat izn (mzd+1)=c)) (hkxn:kxn≤5) (hkxd:kxd≤5) (hkyn:kyn≤5) (hkyd:kyd≤5) (hkzn:kzn≤5) (hkzd:kzd≤5) (hb0:b≠0) (HSC:Hid (sgQ c=sc)) (HC0:Hid (sgQ (a - b)=c0)) (HD0:Hid (sgQ (b - a)=d0)) (HDC:Hid (d0 = -c0)) (HP:Hid (c0*sc=p)) (hp1:-1≤p) (hp2:p≤1) (hc1:-1≤c0) (hc2:c0≤1) (HSB:Hid (sgQ b=sb)) (hsb:¬ sb=0) (HT:Hid (Tab w)) :
  CB 54 #[.agg #[.bool bbxn,vxn,vxd],.agg #[.bool bbyn,vyn,vyd],.agg #[.bool bbzn,vzn,vzd]] w (.bool true):=by
 obtain ⟨ao_xn,c_xn,rfl⟩:=HWxn.out.slice
 obtain ⟨ao_xd,c_xd,rfl⟩:=HWxd.out.slice
 have hm_xn:wl mxn≤5:=by rw [← HVxn.out];have:=wl_le.2 (vl_lt HFxn.out);omega
 have hm_xd:wl mxd≤5:=by rw [← HVxd.out];have:=wl_le.2 (vl_lt HFxd.out);omega
 have hi_x:wl (Int.natAbs ixn)≤5:=by rw [zsize HAxn.out];exact hm_xn
 have hs_x:sz a≤6:=by rw [← HQx.out];exact sz_great hi_x hm_xd
 have hr_x:rz a≤18:=by rw [← HQx.out];exact qc2 hi_x hm_xd (by decide)
 obtain ⟨ao_yn,c_yn,rfl⟩:=HWyn.out.slice
 obtain ⟨ao_yd,c_yd,rfl⟩:=HWyd.out.slice
 have hm_yn:wl myn≤5:=by rw [← HVyn.out];have:=wl_le.2 (vl_lt HFyn.out);omega
 have hm_yd:wl myd≤5:=by rw [← HVyd.out];have:=wl_le.2 (vl_lt HFyd.out);omega
 have hi_y:wl (Int.natAbs iyn)≤5:=by rw [zsize HAyn.out];exact hm_yn
 have hs_y:sz b≤6:=by rw [← HQy.out];exact sz_great hi_y hm_yd
 have hr_y:rz b≤18:=by rw [← HQy.out];exact qc2 hi_y hm_yd (by decide)
 obtain ⟨ao_zn,c_zn,rfl⟩:=HWzn.out.slice
 obtain ⟨ao_zd,c_zd,rfl⟩:=HWzd.out.slice
 have hm_zn:wl mzn≤5:=by rw [← HVzn.out];have:=wl_le.2 (vl_lt HFzn.out);omega
 have hm_zd:wl mzd≤5:=by rw [← HVzd.out];have:=wl_le.2 (vl_lt HFzd.out);omega
 have hi_z:wl (Int.natAbs izn)≤5:=by rw [zsize HAzn.out];exact hm_zn
 have hs_z:sz c≤6:=by rw [← HQz.out];exact sz_great hi_z hm_zd
 have hr_z:rz c≤18:=by rw [← HQz.out];exact qc2 hi_z hm_zd (by decide)
 go_enter Tryz.func54,Tryz.ntmps54
 have I:=lh_ (hp0 w)
 refine kSl fun K O=>?_;go_wp2
 refine kF_ O (al3_ I) fun Wx0 J=>?_;clear O K
 clear I;have I:=J;clear J
 generalize w.heap.size+1+1=gx2 at *
 generalize w.heap.size+1=gx1 at *
 refine wp_seq ?_
 have lx0:=kc0_ I
 have lx1:=kc1_ I
 have lx2:=kc2_ I
 refine kS fun K O=>?_
 have HG0:Hid (Gr Wx0 Wx0):=lh_ (Gr.refl _)
 refine sq6_ fun T Y=>?_
 refine tk3_ ?_
 refine qb5 (cs:=#[.bool bbxn,(.slice ao_xn kxn c_xn),(.slice ao_xd kxd c_xd),.bool bbyn,(.slice ao_yn kyn c_yn),(.slice ao_yd kyd c_yd),.bool bbzn,(.slice ao_zn kzn c_zn),(.slice ao_zd kzd c_zd)]) (E:=83) (n:=3) rfl (by rfl) (fun w' hw=>?_) (fun gx4 vv4 hg0 yx4 bx4=>?_)
 ·go_simp
 clear yx4
 replace HG0:=lh_ (HG0.out.trans hg0)
 have HGS:=lh_ hg0;clear hg0
 clear HGS
 have BX4:=lh_ bx4;clear bx4
 clear lx0;have lx0:=kg0_ I HG0
 clear lx1;have lx1:=kg1_ I HG0
 clear lx2;have lx2:=kg2_ I HG0
 simp only [Act.put,lA,lB,lC]
 refine ck Tryz.call127 (fun w' hw=>qJ0 _ _ _ _ _ _ _ _ _ _ _ _ _ _ _ _ _ _ _ _ _ 5 gx4 _ (BX4.out.gr hw) om om om om om om) ?_
 refine tk ?_
 refine nzR Y O (fun w2 hg=>I.out.gr (HG0.out.trans hg)) ?_;clear Y T I HG0 BX4 lx0 lx1 lx2 O K;intro vw1 I
 refine wp_cond_false (by rfl) ?_
 refine wp_skip ?_
 show Code.wp _ _ _ _ _
 have HB:=HPb I
 have lx0:=kc0_ I
 have lx1:=kc1_ I
 have lx2:=kc2_ I
 refine kS fun K O=>?_
 refine wp_region_plan 9 [6,7,8] [] (fun i=>if i=6 then 7 else if i=7 then 8 else 9) (fun i=>if i=6 then .cells #[.int .u64 0,.string ⟨#[]⟩,.bool false,.int .u64 0,.string ⟨#[]⟩] 36 else if i=7 then .cells #[.int .u64 0,.string ⟨#[]⟩,.bool false,.int .u64 0,.string ⟨#[]⟩] 36 else .cells #[.int .u64 0,.string ⟨#[]⟩,.bool false,.int .u64 0,.string ⟨#[]⟩] 36) [(true,0),(true,2),(true,4),(true,1),(true,3),(true,5)] (by kernel_rfl) (by kernel_rfl) xA7 (fun i hi=>by cases hi) (fun _ _ _ _ _ h=>h) (fun T Y=>?_)
 refine tk3_ ?_
 refine ck Tryz.call35 (fun w' hw=>qd2 bbxn kxn fxn mxn ixn kxd fxd mxd a ao_xn c_xn ao_xd c_xd w' (lh_ (HWxn.out.gr (Gr.trans HB.out hw))) HFxn HVxn HAxn (lh_ (HWxd.out.gr (Gr.trans HB.out hw))) HFxd HVxd HQx om om om om) ?_
 refine ck Tryz.call35 (fun w' hw=>qd2 bbyn kyn fyn myn iyn kyd fyd myd b ao_yn c_yn ao_yd c_yd w' (lh_ (HWyn.out.gr (Gr.trans HB.out hw))) HFyn HVyn HAyn (lh_ (HWyd.out.gr (Gr.trans HB.out hw))) HFyd HVyd HQy om om om om) ?_
 refine ck Tryz.call35 (fun w' hw=>qd2 bbzn kzn fzn mzn izn kzd fzd mzd c ao_zn c_zn ao_zd c_zd w' (lh_ (HWzn.out.gr (Gr.trans HB.out hw))) HFzn HVzn HAzn (lh_ (HWzd.out.gr (Gr.trans HB.out hw))) HFzd HVzd HQz om om om om) ?_
 refine wpPlan_nil (Y.out _ _ ?_)
 intro G vw2 hg hf
 simp only [puts,Act.put,lA,lB,lC,lD,lE,↓reduceIte,Nat.reduceEqDiff]
 have J:=lh_ (I.out.fr hg hf (zs:=[(#[.int .u64 0,.string ⟨#[]⟩,.bool false,.int .u64 0,.string ⟨#[]⟩],36),(#[.int .u64 0,.string ⟨#[]⟩,.bool false,.int .u64 0,.string ⟨#[]⟩],36),(#[.int .u64 0,.string ⟨#[]⟩,.bool false,.int .u64 0,.string ⟨#[]⟩],36)]) rfl (by decide) (by decide))
 simp only [zq1_,zq2_,zq3_,zq4_,lF,lG] at J
 clear Y T I hg hf lx0 lx1 lx2 HB
 generalize G 6=gx5 at *
 generalize G 7=gx6 at *
 generalize G 8=gx7 at *
 have lx5:=kc3_ J;have fx5:=kf3_ J
 have lx6:=kc4_ J;have fx6:=kf4_ J
 have lx7:=kc5_ J;have fx7:=kf5_ J
 have r0:=Gr.refl vw2
 obtain ⟨d5_6,d6_5⟩:=J.out.ne 3 4 rfl rfl (by decide)
 obtain ⟨d5_7,d7_5⟩:=J.out.ne 3 5 rfl rfl (by decide)
 obtain ⟨d6_7,d7_6⟩:=J.out.ne 4 5 rfl rfl (by decide)
 go_wp2
 refine kO O ?_;clear O K
 clear r0 lx5 fx5 lx6 fx6 lx7 fx7 d5_6 d6_5 d5_7 d7_5 d6_7 d7_6
 refine fH (((((((((((((J.out).put2 3 0 rfl).put2 3 2 rfl).put 3 4 _ rfl).put2 4 0 rfl).put2 4 2 rfl).put 4 4 _ rfl).put2 5 0 rfl).put2 5 2 rfl).put 5 4 _ rfl).er 2).er 1).er 0) fun Wx3 I=>?_
 clear J
 refine wp_seq ?_
 obtain ⟨u1,HZ1⟩:=ex_ (a+(b))
 have su1:sz u1≤13:=by rw [← HZ1.out];have:=qc9 a b;omega
 have HZ2:Hid (b+(a)=u1):=lh_ zb9_
 have su2:sz u1≤13:=by have e:=HZ2.out;first|omega|(rw [← e];have:=qc9 b a;omega)
 obtain ⟨u3,HZ3⟩:=ex_ (a*(b))
 have su3:sz u3≤12:=by rw [← HZ3.out];have:=sz_mul a b;omega
 have HZ4:Hid (b*(a)=u3):=lh_ xA0
 have su4:sz u3≤12:=by have e:=HZ4.out;first|omega|(rw [← e];have:=sz_mul b a;omega)
 have HZ5:Hid (a+(b)=u1):=lh_ xA0
 have su5:sz u1≤13:=by have e:=HZ5.out;first|omega|(rw [← e];have:=qc9 a b;omega)
 obtain ⟨u6,HZ6⟩:=ex_ (u1+(c))
 have su6:sz u6≤20:=by rw [← HZ6.out];have:=qc9 u1 c;omega
 obtain ⟨u7,HZ7⟩:=ex_ (b+(c))
 have su7:sz u7≤13:=by rw [← HZ7.out];have:=qc9 b c;omega
 have HZ8:Hid (a+(u7)=u6):=lh_ xz8
 have su8:sz u6≤20:=by have e:=HZ8.out;first|omega|(rw [← e];have:=qc9 a u7;omega)
 have HZ9:Hid (a*(b)=u3):=lh_ xz8
 have su9:sz u3≤12:=by have e:=HZ9.out;first|omega|(rw [← e];have:=sz_mul a b;omega)
 obtain ⟨u10,HZ10⟩:=ex_ (u3*(c))
 have su10:sz u10≤18:=by rw [← HZ10.out];have:=sz_mul u3 c;omega
 obtain ⟨u11,HZ11⟩:=ex_ (b*(c))
 have su11:sz u11≤12:=by rw [← HZ11.out];have:=sz_mul b c;omega
 have HZ12:Hid (a*(u11)=u10):=lh_ xz6
 have su12:sz u10≤18:=by have e:=HZ12.out;first|omega|(rw [← e];have:=sz_mul a u11;omega)
 have HZ13:Hid (b+(c)=u7):=lh_ xz6
 have su13:sz u7≤13:=by have e:=HZ13.out;first|omega|(rw [← e];have:=qc9 b c;omega)
 obtain ⟨u14,HZ14⟩:=ex_ (a*(u7))
 have su14:sz u14≤19:=by rw [← HZ14.out];have:=sz_mul a u7;omega
 have HZ15:Hid (a*(b)=u3):=lh_ (by first|exact ok|exact Rat.sub_self|exact Rat.add_comm _ _|exact Rat.mul_comm _ _|exact Rat.add_assoc _ _ _|exact Rat.mul_assoc _ _ _|exact Rat.mul_add _ _ _|exact Rat.add_sub_cancel|exact Rat.mul_div_cancel (by assumption)|(simp only [← HZ14.out,← HZ11.out,← HZ10.out,← HZ7.out,← HZ6.out,← HZ3.out,← HZ1.out] <;> first|exact ok|exact Rat.sub_self|exact Rat.add_comm _ _|exact Rat.mul_comm _ _|exact Rat.add_assoc _ _ _|exact Rat.mul_assoc _ _ _|exact Rat.mul_add _ _ _|exact Rat.add_sub_cancel|exact Rat.mul_div_cancel (by assumption)))
 have su15:sz u3≤12:=by have e:=HZ15.out;first|omega|(rw [← e];have:=sz_mul a b;omega)
 obtain ⟨u16,HZ16⟩:=ex_ (a*(c))
 have su16:sz u16≤12:=by rw [← HZ16.out];have:=sz_mul a c;omega
 have HZ17:Hid (u3+(u16)=u14):=lh_ zb1_
 have su17:sz u14≤25:=by have e:=HZ17.out;first|omega|(rw [← e];have:=qc9 u3 u16;omega)
 have HZ18:Hid (a+(b)=u1):=lh_ zb1_
 have su18:sz u1≤13:=by have e:=HZ18.out;first|omega|(rw [← e];have:=qc9 a b;omega)
 have HZ19:Hid (u1 - b=a):=lh_ zb1_
 have su19:sz a≤20:=by have e:=HZ19.out;first|omega|(rw [← e];have:=qr2 u1 b;omega)
 have lx5:=kc0_ I
 have lx6:=kc1_ I
 have lx7:=kc2_ I
 refine kS fun K O=>?_
 refine pd1_ fun T Y=>?_
 iterate 4 refine tk ?_
 refine ck Tryz.call130 (fun w' hw=>qa_ a b u1 _ HZ1.out om om) ?_
 refine ck Tryz.call130 (fun w' hw=>qa_ b a u1 _ HZ2.out om om) ?_
 iterate 6 refine tk ?_
 refine ck Tryz.call134 (fun w' hw=>fmul_any a b u3 _ HZ3.out om om) ?_
 refine ck Tryz.call134 (fun w' hw=>fmul_any b a u3 _ HZ4.out om om) ?_
 iterate 9 refine tk ?_
 refine ck Tryz.call130 (fun w' hw=>qa_ a b u1 _ HZ5.out om om) ?_
 refine ck Tryz.call130 (fun w' hw=>qa_ u1 c u6 _ HZ6.out om om) ?_
 refine ck Tryz.call130 (fun w' hw=>qa_ b c u7 _ HZ7.out om om) ?_
 refine ck Tryz.call130 (fun w' hw=>qa_ a u7 u6 _ HZ8.out om om) ?_
 iterate 9 refine tk ?_
 refine ck Tryz.call134 (fun w' hw=>fmul_any a b u3 _ HZ9.out om om) ?_
 refine ck Tryz.call134 (fun w' hw=>fmul_any u3 c u10 _ HZ10.out om om) ?_
 refine ck Tryz.call134 (fun w' hw=>fmul_any b c u11 _ HZ11.out om om) ?_
 refine ck Tryz.call134 (fun w' hw=>fmul_any a u11 u10 _ HZ12.out om om) ?_
 iterate 10 refine tk ?_
 refine ck Tryz.call130 (fun w' hw=>qa_ b c u7 _ HZ13.out om om) ?_
 refine ck Tryz.call134 (fun w' hw=>fmul_any a u7 u14 _ HZ14.out om om) ?_
 refine ck Tryz.call134 (fun w' hw=>fmul_any a b u3 _ HZ15.out om om) ?_
 refine ck Tryz.call134 (fun w' hw=>fmul_any a c u16 _ HZ16.out om om) ?_
 refine ck Tryz.call130 (fun w' hw=>qa_ u3 u16 u14 _ HZ17.out om om) ?_
 iterate 7 refine tk ?_
 refine ck Tryz.call130 (fun w' hw=>qa_ a b u1 _ HZ18.out om om) ?_
 refine ck Tryz.call132 (fun w' hw=>qg5 u1 b a _ HZ19.out om om) ?_
 refine tk ?_
 refine wpPlan_nil (Y.out _ _ ?_)
 intro G vw3 hg hf
 simp only [puts,Act.put,lA,lB,lC,lD,lE,↓reduceIte,Nat.reduceEqDiff,List.append_eq,List.cons_append,List.nil_append]
 have J:=lh_ (I.out.gr hg)
 clear Y T I hg hf lx5 lx6 lx7
 go_wp2
 refine kO O ?_;clear O K
 have I:=J;clear J
 refine wp_cond_false (by rfl) ?_
 refine wp_skip ?_
 show Code.wp _ _ _ _ _
 have HZ20:Hid (a*(b)=u3):=lh_ zb1_
 have su20:sz u3≤12:=by have e:=HZ20.out;first|omega|(rw [← e];have:=sz_mul a b;omega)
 have HZ21:Hid (u3 / b=a):=lh_ zb1_
 have su21:sz a≤18:=by have e:=HZ21.out;first|omega|(rw [← e];have:=sz_div u3 b;omega)
 have lx5:=kc0_ I
 have lx6:=kc1_ I
 refine kS fun K O=>?_
 refine wp_region_plan 9 [8] [7] (fun _=>10) (fun _=>.cells #[.int .u64 0,.string ⟨#[]⟩,.bool false,.int .u64 0,.string ⟨#[]⟩] 36) [(true,0),(true,1),(true,3),(true,2),(true,4),(true,5),(true,6),(true,7)] (by kernel_rfl) (by kernel_rfl) qu_ qr6 (fun _ _ _ _ _ h=>h) (fun T Y=>?_)
 refine tk3_ ?_
 refine ck Tryz.call134 (fun w' hw=>fmul_any a b u3 _ HZ20.out om om) ?_
 refine ck Tryz.call79 (fun w' hw=>fdiv_any u3 b a _ HZ21.out zb1_ om om) ?_
 refine tk3_ ?_
 refine wpPlan_nil (Y.out _ _ ?_)
 intro G vw4 hg hf
 simp only [puts,Act.put,lA,lB,lC,lD,lE,↓reduceIte,Nat.reduceEqDiff]
 have J:=lh_ (I.out.fr hg hf (zs:=[(#[.int .u64 0,.string ⟨#[]⟩,.bool false,.int .u64 0,.string ⟨#[]⟩],36)]) rfl (by decide) (by decide))
 simp only [zq1_,zq2_,zq3_,zq4_,lF,lG] at J
 clear Y T I hg hf lx5 lx6
 generalize G 8=gx8 at *
 have lx8:=kc3_ J;have fx8:=kf3_ J
 have r0:=Gr.refl vw4
 go_wp2
 refine kO O ?_;clear O K
 clear r0 lx8 fx8
 refine fH ((((J.out).put2 3 0 rfl).put2 3 2 rfl).put 3 4 _ rfl) fun Wx6 I=>?_
 clear J
 refine wp_seq ?_
 have hd1:(sb == (0))=false:=by have:¬ (sb=0):=zb1_;simpa using this
 have hd2:(sb == (0))=false:=by have:¬ (sb=0):=zb1_;simpa using this
 have hd3:(sb != (0))=true:=by have:¬ (sb=0):=zb1_;simpa using this
 obtain ⟨u22,HZ22⟩:=ex_ (a*(a))
 have su22:sz u22≤12:=by rw [← HZ22.out];have:=sz_mul a a;omega
 obtain ⟨t23,HT23⟩:=ex_ (sgQ u22)
 have ht23:0≤t23:=by rw [← HT23.out];simp only [← HZ22.out,← HZ16.out,← HZ14.out,← HZ11.out,← HZ10.out,← HZ7.out,← HZ6.out,← HZ3.out,← HZ1.out];exact xl0 _
 have hd4:¬ (t23<0):=by first|exact ok|exact Rat.sub_self|exact Rat.add_comm _ _|exact Rat.mul_comm _ _|exact Rat.add_assoc _ _ _|exact Rat.mul_assoc _ _ _|exact Rat.mul_add _ _ _|exact Rat.add_sub_cancel|exact Rat.mul_div_cancel (by assumption)|(simp only [← HZ22.out,← HZ16.out,← HZ14.out,← HZ11.out,← HZ10.out,← HZ7.out,← HZ6.out,← HZ3.out,← HZ1.out] <;> first|exact ok|exact Rat.sub_self|exact Rat.add_comm _ _|exact Rat.mul_comm _ _|exact Rat.add_assoc _ _ _|exact Rat.mul_assoc _ _ _|exact Rat.mul_add _ _ _|exact Rat.add_sub_cancel|exact Rat.mul_div_cancel (by assumption))
 have HZ24:Hid (a*(a)=u22):=lh_ xz4
 have su24:sz u22≤12:=by have e:=HZ24.out;first|omega|(rw [← e];have:=sz_mul a a;omega)
 have HZ25:Hid (a*(a)=u22):=lh_ xz4
 have su25:sz u22≤12:=by have e:=HZ25.out;first|omega|(rw [← e];have:=sz_mul a a;omega)
 have lx5:=kc0_ I
 have lx6:=kc1_ I
 have lx8:=kc3_ I
 refine kS fun K O=>?_
 refine pd2_ fun T Y=>?_
 refine tk ?_
 refine ck Tryz.call139 (fun w' hw=>fsign_any b sb _ HSB.out) ?_
 refine tk2_ ?_
 iterate 2 refine sk ?_
 refine tk3_ ?_
 refine ck Tryz.call139 (fun w' hw=>fsign_any b sb _ HSB.out) ?_
 iterate 13 refine tk ?_
 refine ck Tryz.call145 (fun w' hw=>qi8 a u22 _ (lh_ HZ22.out) om) ?_
 refine ck Tryz.call139 (fun w' hw=>fsign_any u22 t23 _ HT23.out) ?_
 iterate 6 refine tk ?_
 refine ck Tryz.call145 (fun w' hw=>qi8 a u22 _ (lh_ HZ24.out) om) ?_
 refine ck Tryz.call134 (fun w' hw=>fmul_any a a u22 _ HZ25.out om om) ?_
 refine tk ?_
 refine nlD Y I fun vw5 J=>?_
 clear Y T I lx5 lx6 lx8
 go_wp2
 refine kF_ O ((J.out).er 3) fun Wx7 I=>?_;clear O K
 clear J
 clear hd1 hd2 hd3 ht23 hd4
 refine wp_cond_false (by rfl) ?_
 refine wp_skip ?_
 show Code.wp _ _ _ _ _
 have HB:=HPb I
 obtain ⟨u26,HZ26⟩:=ex_ (a+(c))
 have su26:sz u26≤13:=by rw [← HZ26.out];have:=qc9 a c;omega
 have HZ27:Hid (b+(c)=u7):=lh_ xs9
 have su27:sz u7≤13:=by have e:=HZ27.out;first|omega|(rw [← e];have:=qc9 b c;omega)
 have HZ28:Hid (a*(c)=u16):=lh_ xs9
 have su28:sz u16≤12:=by have e:=HZ28.out;first|omega|(rw [← e];have:=sz_mul a c;omega)
 have HZ29:Hid (b*(c)=u11):=lh_ xs9
 have su29:sz u11≤12:=by have e:=HZ29.out;first|omega|(rw [← e];have:=sz_mul b c;omega)
 have hmul:c0*sc=p:=HP.out
 have hmw:IntKind.i64.wrap p=p:=by rw [IntKind.wrap_i64];omega
 have hng:IntKind.i64.wrap (-d0)=c0:=by have e9:=HDC.out;rw [IntKind.wrap_i64];omega
 have lx5:=kc0_ I
 have lx6:=kc1_ I
 have lx7:=kc2_ I
 refine kS fun K O=>?_
 refine pd3_ fun T Y=>?_
 iterate 6 refine tk ?_
 refine ck Tryz.call130 (fun w' hw=>qa_ a c u26 _ HZ26.out om om) ?_
 refine ck Tryz.call130 (fun w' hw=>qa_ b c u7 _ HZ27.out om om) ?_
 refine ck Tryz.call140 (fun w' hw=>qa3 u26 u7 c0 _ (by rw [← HC0.out];simp only [← HZ26.out,← HZ22.out,← HZ16.out,← HZ14.out,← HZ11.out,← HZ10.out,← HZ7.out,← HZ6.out,← HZ3.out,← HZ1.out];first|exact qB0 _ _ _|(congr 1;grind)) om om) ?_
 refine ck Tryz.call140 (fun w' hw=>qa3 a b c0 _ HC0.out om om) ?_
 iterate 9 refine tk ?_
 refine ck Tryz.call134 (fun w' hw=>fmul_any a c u16 _ HZ28.out om om) ?_
 refine ck Tryz.call134 (fun w' hw=>fmul_any b c u11 _ HZ29.out om om) ?_
 refine ck Tryz.call140 (fun w' hw=>qa3 u16 u11 p _ (by rw [← HP.out,← HC0.out,← HSC.out];simp only [← HZ26.out,← HZ22.out,← HZ16.out,← HZ14.out,← HZ11.out,← HZ10.out,← HZ7.out,← HZ6.out,← HZ3.out,← HZ1.out];first|exact qw0 _ _ _|(rw [← qn6];congr 1;grind)) om om) ?_
 refine ck Tryz.call140 (fun w' hw=>qa3 a b c0 _ HC0.out om om) ?_
 refine ck Tryz.call139 (fun w' hw=>fsign_any c sc _ HSC.out) ?_
 iterate 8 refine tk ?_
 refine ck Tryz.call140 (fun w' hw=>qa3 a b c0 _ HC0.out om om) ?_
 refine ck Tryz.call140 (fun w' hw=>qa3 b a d0 _ (HD0.out) om om) ?_
 refine wpPlan_takeL (v:=?_) rfl (by rfl) (fun w' hw=>?_) ?_
 rotate_left
 ·go_simp
  first|(simp only [hng];with_reducible rfl)|with_reducible rfl
 simp only [Act.put,lA,lB,lC]
 refine tk3_ ?_
 refine ck Tryz.call62 (fun w' hw=>worksq_any _ (lh_ (HT.out.gr (Gr.trans HB.out hw)))) ?_
 refine tk ?_
 refine nlD Y I fun vw6 J=>?_
 clear Y T I lx5 lx6 lx7 HB
 go_wp2
 refine kF_ O ((((J.out).er 2).er 1).er 0) fun Wx9 I=>?_;clear O K
 clear J
 clear hmul hmw hng
 refine wp_ret ?_
 try simp only [Exit.then,Exit.inBlock]
 exact bR ⟨rfl,I.out.1⟩ (by simp [results,Tryz.results54,go_sem])
theorem fieldq_z (bbxn:Bool) (vxn:Value) (kxn:Nat) (fxn:Nat→Nat) (mxn:Nat) (ixn:Int) (vxd:Value) (kxd:Nat) (fxd:Nat→Nat) (mxd:Nat) (bbyn:Bool) (vyn:Value) (kyn:Nat) (fyn:Nat→Nat) (myn:Nat) (iyn:Int) (vyd:Value) (kyd:Nat) (fyd:Nat→Nat) (myd:Nat) (bbzn:Bool) (vzn:Value) (kzn:Nat) (fzn:Nat→Nat) (mzn:Nat) (izn:Int) (vzd:Value) (kzd:Nat) (fzd:Nat→Nat) (mzd:Nat) (a c:Rat) (sc c0 d0 p:Int) (w:World) (HWxn:Hid (Wa w vxn kxn fxn)) (HFxn:Hid (∀ i,i<kxn→fxn i<4294967296)) (HVxn:Hid (vl fxn kxn=mxn)) (HAxn:Hid ((if bbxn then -((mxn:Nat):Int) else ((mxn:Nat):Int))=ixn)) (HWxd:Hid (Wa w vxd kxd fxd)) (HFxd:Hid (∀ i,i<kxd→fxd i<4294967296)) (HVxd:Hid (vl fxd kxd=mxd)) (HQx:Hid (mkRat ixn (mxd+1)=a)) (HWyn:Hid (Wa w vyn kyn fyn)) (HFyn:Hid (∀ i,i<kyn→fyn i<4294967296)) (HVyn:Hid (vl fyn kyn=myn)) (HAyn:Hid ((if bbyn then -((myn:Nat):Int) else ((myn:Nat):Int))=iyn)) (HWyd:Hid (Wa w vyd kyd fyd)) (HFyd:Hid (∀ i,i<kyd→fyd i<4294967296)) (HVyd:Hid (vl fyd kyd=myd)) (HQy:Hid (mkRat iyn (myd+1)=(0:Rat))) (HWzn:Hid (Wa w vzn kzn fzn)) (HFzn:Hid (∀ i,i<kzn→fzn i<4294967296)) (HVzn:Hid (vl fzn kzn=mzn)) (HAzn:Hid ((if bbzn then -((mzn:Nat):Int) else ((mzn:Nat):Int))=izn)) (HWzd:Hid (Wa w vzd kzd fzd)) (HFzd:Hid (∀ i,i<kzd→fzd i<4294967296)) (HVzd:Hid (vl fzd kzd=mzd)) (HQz:Hid (mkRat izn (mzd+1)=c)) (hkxn:kxn≤5) (hkxd:kxd≤5) (hkyn:kyn≤5) (hkyd:kyd≤5) (hkzn:kzn≤5) (hkzd:kzd≤5)  (HSC:Hid (sgQ c=sc)) (HC0:Hid (sgQ (a - (0:Rat))=c0)) (HD0:Hid (sgQ ((0:Rat) - a)=d0)) (HDC:Hid (d0 = -c0)) (HP:Hid (c0*sc=p)) (hp1:-1≤p) (hp2:p≤1) (hc1:-1≤c0) (hc2:c0≤1) (HT:Hid (Tab w)) :
  CB 54 #[.agg #[.bool bbxn,vxn,vxd],.agg #[.bool bbyn,vyn,vyd],.agg #[.bool bbzn,vzn,vzd]] w (.bool true):=by
 obtain ⟨ao_xn,c_xn,rfl⟩:=HWxn.out.slice
 obtain ⟨ao_xd,c_xd,rfl⟩:=HWxd.out.slice
 have hm_xn:wl mxn≤5:=by rw [← HVxn.out];have:=wl_le.2 (vl_lt HFxn.out);omega
 have hm_xd:wl mxd≤5:=by rw [← HVxd.out];have:=wl_le.2 (vl_lt HFxd.out);omega
 have hi_x:wl (Int.natAbs ixn)≤5:=by rw [zsize HAxn.out];exact hm_xn
 have hs_x:sz a≤6:=by rw [← HQx.out];exact sz_great hi_x hm_xd
 have hr_x:rz a≤18:=by rw [← HQx.out];exact qc2 hi_x hm_xd (by decide)
 obtain ⟨ao_yn,c_yn,rfl⟩:=HWyn.out.slice
 obtain ⟨ao_yd,c_yd,rfl⟩:=HWyd.out.slice
 have hm_yn:wl myn≤5:=by rw [← HVyn.out];have:=wl_le.2 (vl_lt HFyn.out);omega
 have hm_yd:wl myd≤5:=by rw [← HVyd.out];have:=wl_le.2 (vl_lt HFyd.out);omega
 have hi_y:wl (Int.natAbs iyn)≤5:=by rw [zsize HAyn.out];exact hm_yn
 have hs_y:sz (0:Rat)≤6:=by rw [← HQy.out];exact sz_great hi_y hm_yd
 have hr_y:rz (0:Rat)≤18:=by rw [← HQy.out];exact qc2 hi_y hm_yd (by decide)
 obtain ⟨ao_zn,c_zn,rfl⟩:=HWzn.out.slice
 obtain ⟨ao_zd,c_zd,rfl⟩:=HWzd.out.slice
 have hm_zn:wl mzn≤5:=by rw [← HVzn.out];have:=wl_le.2 (vl_lt HFzn.out);omega
 have hm_zd:wl mzd≤5:=by rw [← HVzd.out];have:=wl_le.2 (vl_lt HFzd.out);omega
 have hi_z:wl (Int.natAbs izn)≤5:=by rw [zsize HAzn.out];exact hm_zn
 have hs_z:sz c≤6:=by rw [← HQz.out];exact sz_great hi_z hm_zd
 have hr_z:rz c≤18:=by rw [← HQz.out];exact qc2 hi_z hm_zd (by decide)
 go_enter Tryz.func54,Tryz.ntmps54
 have I:=lh_ (hp0 w)
 refine kSl fun K O=>?_;go_wp2
 refine kF_ O (al3_ I) fun Wx0 J=>?_;clear O K
 clear I;have I:=J;clear J
 generalize w.heap.size+1+1=gx2 at *
 generalize w.heap.size+1=gx1 at *
 refine wp_seq ?_
 have lx0:=kc0_ I
 have lx1:=kc1_ I
 have lx2:=kc2_ I
 refine kS fun K O=>?_
 have HG0:Hid (Gr Wx0 Wx0):=lh_ (Gr.refl _)
 refine sq6_ fun T Y=>?_
 refine tk3_ ?_
 refine qb5 (cs:=#[.bool bbxn,(.slice ao_xn kxn c_xn),(.slice ao_xd kxd c_xd),.bool bbyn,(.slice ao_yn kyn c_yn),(.slice ao_yd kyd c_yd),.bool bbzn,(.slice ao_zn kzn c_zn),(.slice ao_zd kzd c_zd)]) (E:=83) (n:=3) rfl (by rfl) (fun w' hw=>?_) (fun gx4 vv4 hg0 yx4 bx4=>?_)
 ·go_simp
 clear yx4
 replace HG0:=lh_ (HG0.out.trans hg0)
 have HGS:=lh_ hg0;clear hg0
 clear HGS
 have BX4:=lh_ bx4;clear bx4
 clear lx0;have lx0:=kg0_ I HG0
 clear lx1;have lx1:=kg1_ I HG0
 clear lx2;have lx2:=kg2_ I HG0
 simp only [Act.put,lA,lB,lC]
 refine ck Tryz.call127 (fun w' hw=>qJ0 _ _ _ _ _ _ _ _ _ _ _ _ _ _ _ _ _ _ _ _ _ 5 gx4 _ (BX4.out.gr hw) om om om om om om) ?_
 refine tk ?_
 refine nzR Y O (fun w2 hg=>I.out.gr (HG0.out.trans hg)) ?_;clear Y T I HG0 BX4 lx0 lx1 lx2 O K;intro vw1 I
 refine wp_cond_false (by rfl) ?_
 refine wp_skip ?_
 show Code.wp _ _ _ _ _
 have HB:=HPb I
 have lx0:=kc0_ I
 have lx1:=kc1_ I
 have lx2:=kc2_ I
 refine kS fun K O=>?_
 refine wp_region_plan 9 [6,7,8] [] (fun i=>if i=6 then 7 else if i=7 then 8 else 9) (fun i=>if i=6 then .cells #[.int .u64 0,.string ⟨#[]⟩,.bool false,.int .u64 0,.string ⟨#[]⟩] 36 else if i=7 then .cells #[.int .u64 0,.string ⟨#[]⟩,.bool false,.int .u64 0,.string ⟨#[]⟩] 36 else .cells #[.int .u64 0,.string ⟨#[]⟩,.bool false,.int .u64 0,.string ⟨#[]⟩] 36) [(true,0),(true,2),(true,4),(true,1),(true,3),(true,5)] (by kernel_rfl) (by kernel_rfl) xA7 (fun i hi=>by cases hi) (fun _ _ _ _ _ h=>h) (fun T Y=>?_)
 refine tk3_ ?_
 refine ck Tryz.call35 (fun w' hw=>qd2 bbxn kxn fxn mxn ixn kxd fxd mxd a ao_xn c_xn ao_xd c_xd w' (lh_ (HWxn.out.gr (Gr.trans HB.out hw))) HFxn HVxn HAxn (lh_ (HWxd.out.gr (Gr.trans HB.out hw))) HFxd HVxd HQx om om om om) ?_
 refine ck Tryz.call35 (fun w' hw=>qd2 bbyn kyn fyn myn iyn kyd fyd myd (0:Rat) ao_yn c_yn ao_yd c_yd w' (lh_ (HWyn.out.gr (Gr.trans HB.out hw))) HFyn HVyn HAyn (lh_ (HWyd.out.gr (Gr.trans HB.out hw))) HFyd HVyd HQy om om om om) ?_
 refine ck Tryz.call35 (fun w' hw=>qd2 bbzn kzn fzn mzn izn kzd fzd mzd c ao_zn c_zn ao_zd c_zd w' (lh_ (HWzn.out.gr (Gr.trans HB.out hw))) HFzn HVzn HAzn (lh_ (HWzd.out.gr (Gr.trans HB.out hw))) HFzd HVzd HQz om om om om) ?_
 refine wpPlan_nil (Y.out _ _ ?_)
 intro G vw2 hg hf
 simp only [puts,Act.put,lA,lB,lC,lD,lE,↓reduceIte,Nat.reduceEqDiff]
 have J:=lh_ (I.out.fr hg hf (zs:=[(#[.int .u64 0,.string ⟨#[]⟩,.bool false,.int .u64 0,.string ⟨#[]⟩],36),(#[.int .u64 0,.string ⟨#[]⟩,.bool false,.int .u64 0,.string ⟨#[]⟩],36),(#[.int .u64 0,.string ⟨#[]⟩,.bool false,.int .u64 0,.string ⟨#[]⟩],36)]) rfl (by decide) (by decide))
 simp only [zq1_,zq2_,zq3_,zq4_,lF,lG] at J
 clear Y T I hg hf lx0 lx1 lx2 HB
 generalize G 6=gx5 at *
 generalize G 7=gx6 at *
 generalize G 8=gx7 at *
 have lx5:=kc3_ J;have fx5:=kf3_ J
 have lx6:=kc4_ J;have fx6:=kf4_ J
 have lx7:=kc5_ J;have fx7:=kf5_ J
 have r0:=Gr.refl vw2
 obtain ⟨d5_6,d6_5⟩:=J.out.ne 3 4 rfl rfl (by decide)
 obtain ⟨d5_7,d7_5⟩:=J.out.ne 3 5 rfl rfl (by decide)
 obtain ⟨d6_7,d7_6⟩:=J.out.ne 4 5 rfl rfl (by decide)
 go_wp2
 refine kO O ?_;clear O K
 clear r0 lx5 fx5 lx6 fx6 lx7 fx7 d5_6 d6_5 d5_7 d7_5 d6_7 d7_6
 refine fH (((((((((((((J.out).put2 3 0 rfl).put2 3 2 rfl).put 3 4 _ rfl).put2 4 0 rfl).put2 4 2 rfl).put 4 4 _ rfl).put2 5 0 rfl).put2 5 2 rfl).put 5 4 _ rfl).er 2).er 1).er 0) fun Wx3 I=>?_
 clear J
 refine wp_seq ?_
 have HZ1:Hid (a+(0:Rat)=a):=lh_ zb0_
 have su1:sz a≤13:=by have e:=HZ1.out;first|omega|(rw [← e];have:=qc9 a (0:Rat);omega)
 have HZ2:Hid ((0:Rat)+(a)=a):=lh_ zb0_
 have su2:sz a≤13:=by have e:=HZ2.out;first|omega|(rw [← e];have:=qc9 (0:Rat) a;omega)
 have HZ3:Hid (a*(0:Rat)=(0:Rat)):=lh_ zb0_
 have su3:sz ((0:Rat))≤12:=by have e:=HZ3.out;first|omega|(rw [← e];have:=sz_mul a (0:Rat);omega)
 have HZ4:Hid ((0:Rat)*(a)=(0:Rat)):=lh_ zb0_
 have su4:sz ((0:Rat))≤12:=by have e:=HZ4.out;first|omega|(rw [← e];have:=sz_mul (0:Rat) a;omega)
 have HZ5:Hid (a+(0:Rat)=a):=lh_ zb0_
 have su5:sz a≤13:=by have e:=HZ5.out;first|omega|(rw [← e];have:=qc9 a (0:Rat);omega)
 obtain ⟨u6,HZ6⟩:=ex_ (a+(c))
 have su6:sz u6≤20:=by rw [← HZ6.out];have:=qc9 a c;omega
 have HZ7:Hid ((0:Rat)+(c)=c):=lh_ zb3_
 have su7:sz c≤13:=by have e:=HZ7.out;first|omega|(rw [← e];have:=qc9 (0:Rat) c;omega)
 have HZ8:Hid (a+(c)=u6):=lh_ zb3_
 have su8:sz u6≤20:=by have e:=HZ8.out;first|omega|(rw [← e];have:=qc9 a c;omega)
 have HZ9:Hid (a*(0:Rat)=(0:Rat)):=lh_ zb3_
 have su9:sz ((0:Rat))≤12:=by have e:=HZ9.out;first|omega|(rw [← e];have:=sz_mul a (0:Rat);omega)
 have HZ10:Hid ((0:Rat)*(c)=(0:Rat)):=lh_ zb3_
 have su10:sz ((0:Rat))≤18:=by have e:=HZ10.out;first|omega|(rw [← e];have:=sz_mul (0:Rat) c;omega)
 have HZ11:Hid ((0:Rat)*(c)=(0:Rat)):=lh_ zb3_
 have su11:sz ((0:Rat))≤12:=by have e:=HZ11.out;first|omega|(rw [← e];have:=sz_mul (0:Rat) c;omega)
 have HZ12:Hid (a*(0:Rat)=(0:Rat)):=lh_ zb3_
 have su12:sz ((0:Rat))≤18:=by have e:=HZ12.out;first|omega|(rw [← e];have:=sz_mul a (0:Rat);omega)
 have HZ13:Hid ((0:Rat)+(c)=c):=lh_ zb3_
 have su13:sz c≤13:=by have e:=HZ13.out;first|omega|(rw [← e];have:=qc9 (0:Rat) c;omega)
 obtain ⟨u14,HZ14⟩:=ex_ (a*(c))
 have su14:sz u14≤19:=by rw [← HZ14.out];have:=sz_mul a c;omega
 have HZ15:Hid (a*(0:Rat)=(0:Rat)):=lh_ zb2_
 have su15:sz ((0:Rat))≤12:=by have e:=HZ15.out;first|omega|(rw [← e];have:=sz_mul a (0:Rat);omega)
 have HZ16:Hid (a*(c)=u14):=lh_ zb2_
 have su16:sz u14≤12:=by have e:=HZ16.out;first|omega|(rw [← e];have:=sz_mul a c;omega)
 have HZ17:Hid ((0:Rat)+(u14)=u14):=lh_ zb2_
 have su17:sz u14≤25:=by have e:=HZ17.out;first|omega|(rw [← e];have:=qc9 (0:Rat) u14;omega)
 have HZ18:Hid (a+(0:Rat)=a):=lh_ zb2_
 have su18:sz a≤13:=by have e:=HZ18.out;first|omega|(rw [← e];have:=qc9 a (0:Rat);omega)
 have HZ19:Hid (a - (0:Rat)=a):=lh_ zb2_
 have su19:sz a≤20:=by have e:=HZ19.out;first|omega|(rw [← e];have:=qr2 a (0:Rat);omega)
 have lx5:=kc0_ I
 have lx6:=kc1_ I
 have lx7:=kc2_ I
 refine kS fun K O=>?_
 refine pd1_ fun T Y=>?_
 iterate 4 refine tk ?_
 refine ck Tryz.call130 (fun w' hw=>qa_ a (0:Rat) a _ HZ1.out om om) ?_
 refine ck Tryz.call130 (fun w' hw=>qa_ (0:Rat) a a _ HZ2.out om om) ?_
 iterate 6 refine tk ?_
 refine ck Tryz.call134 (fun w' hw=>fmul_any a (0:Rat) (0:Rat) _ HZ3.out om om) ?_
 refine ck Tryz.call134 (fun w' hw=>fmul_any (0:Rat) a (0:Rat) _ HZ4.out om om) ?_
 iterate 9 refine tk ?_
 refine ck Tryz.call130 (fun w' hw=>qa_ a (0:Rat) a _ HZ5.out om om) ?_
 refine ck Tryz.call130 (fun w' hw=>qa_ a c u6 _ HZ6.out om om) ?_
 refine ck Tryz.call130 (fun w' hw=>qa_ (0:Rat) c c _ HZ7.out om om) ?_
 refine ck Tryz.call130 (fun w' hw=>qa_ a c u6 _ HZ8.out om om) ?_
 iterate 9 refine tk ?_
 refine ck Tryz.call134 (fun w' hw=>fmul_any a (0:Rat) (0:Rat) _ HZ9.out om om) ?_
 refine ck Tryz.call134 (fun w' hw=>fmul_any (0:Rat) c (0:Rat) _ HZ10.out om om) ?_
 refine ck Tryz.call134 (fun w' hw=>fmul_any (0:Rat) c (0:Rat) _ HZ11.out om om) ?_
 refine ck Tryz.call134 (fun w' hw=>fmul_any a (0:Rat) (0:Rat) _ HZ12.out om om) ?_
 iterate 10 refine tk ?_
 refine ck Tryz.call130 (fun w' hw=>qa_ (0:Rat) c c _ HZ13.out om om) ?_
 refine ck Tryz.call134 (fun w' hw=>fmul_any a c u14 _ HZ14.out om om) ?_
 refine ck Tryz.call134 (fun w' hw=>fmul_any a (0:Rat) (0:Rat) _ HZ15.out om om) ?_
 refine ck Tryz.call134 (fun w' hw=>fmul_any a c u14 _ HZ16.out om om) ?_
 refine ck Tryz.call130 (fun w' hw=>qa_ (0:Rat) u14 u14 _ HZ17.out om om) ?_
 iterate 7 refine tk ?_
 refine ck Tryz.call130 (fun w' hw=>qa_ a (0:Rat) a _ HZ18.out om om) ?_
 refine ck Tryz.call132 (fun w' hw=>qg5 a (0:Rat) a _ HZ19.out om om) ?_
 refine tk ?_
 refine wpPlan_nil (Y.out _ _ ?_)
 intro G vw3 hg hf
 simp only [puts,Act.put,lA,lB,lC,lD,lE,↓reduceIte,Nat.reduceEqDiff,List.append_eq,List.cons_append,List.nil_append]
 have J:=lh_ (I.out.gr hg)
 clear Y T I hg hf lx5 lx6 lx7
 go_wp2
 refine kO O ?_;clear O K
 have I:=J;clear J
 refine wp_cond_false (by rfl) ?_
 refine wp_skip ?_
 show Code.wp _ _ _ _ _
 have HZ20:Hid (a*(0:Rat)=(0:Rat)):=lh_ zb2_
 have su20:sz ((0:Rat))≤12:=by have e:=HZ20.out;first|omega|(rw [← e];have:=sz_mul a (0:Rat);omega)
 have lx5:=kc0_ I
 have lx6:=kc1_ I
 refine kS fun K O=>?_
 refine wp_region_plan 9 [8] [7] (fun _=>10) (fun _=>.cells #[.int .u64 0,.string ⟨#[]⟩,.bool false,.int .u64 0,.string ⟨#[]⟩] 36) [(true,0),(true,1),(true,3),(true,2),(true,4),(true,5),(true,6),(true,7)] (by kernel_rfl) (by kernel_rfl) qu_ qr6 (fun _ _ _ _ _ h=>h) (fun T Y=>?_)
 refine tk3_ ?_
 refine ck Tryz.call134 (fun w' hw=>fmul_any a (0:Rat) (0:Rat) _ HZ20.out om om) ?_
 refine ck Tryz.call79 (fun w' hw=>qg_ (0:Rat) (0:Rat) _ zb2_) ?_
 refine tk3_ ?_
 refine wpPlan_nil (Y.out _ _ ?_)
 intro G vw4 hg hf
 simp only [puts,Act.put,lA,lB,lC,lD,lE,↓reduceIte,Nat.reduceEqDiff]
 have J:=lh_ (I.out.fr hg hf (zs:=[(#[.int .u64 0,.string ⟨#[]⟩,.bool false,.int .u64 0,.string ⟨#[]⟩],36)]) rfl (by decide) (by decide))
 simp only [zq1_,zq2_,zq3_,zq4_,lF,lG] at J
 clear Y T I hg hf lx5 lx6
 generalize G 8=gx8 at *
 have lx8:=kc3_ J;have fx8:=kf3_ J
 have r0:=Gr.refl vw4
 go_wp2
 refine kO O ?_;clear O K
 clear r0 lx8 fx8
 refine fH ((((J.out).put2 3 0 rfl).put2 3 2 rfl).put 3 4 _ rfl) fun Wx6 I=>?_
 clear J
 refine wp_seq ?_
 obtain ⟨u21,HZ21⟩:=ex_ (a*(a))
 have su21:sz u21≤12:=by rw [← HZ21.out];have:=sz_mul a a;omega
 obtain ⟨t22,HT22⟩:=ex_ (sgQ u21)
 have ht22:0≤t22:=by rw [← HT22.out];simp only [← HZ21.out,← HZ14.out,← HZ6.out];exact xl0 _
 have hd1:¬ (t22<0):=by first|exact ok|exact Rat.sub_self|exact Rat.add_comm _ _|exact Rat.mul_comm _ _|exact Rat.add_assoc _ _ _|exact Rat.mul_assoc _ _ _|exact Rat.mul_add _ _ _|exact Rat.add_sub_cancel|exact Rat.mul_div_cancel (by assumption)|(simp only [← HZ21.out,← HZ14.out,← HZ6.out] <;> first|exact ok|exact Rat.sub_self|exact Rat.add_comm _ _|exact Rat.mul_comm _ _|exact Rat.add_assoc _ _ _|exact Rat.mul_assoc _ _ _|exact Rat.mul_add _ _ _|exact Rat.add_sub_cancel|exact Rat.mul_div_cancel (by assumption))
 have HZ23:Hid (a*(a)=u21):=lh_ zb4_
 have su23:sz u21≤12:=by have e:=HZ23.out;first|omega|(rw [← e];have:=sz_mul a a;omega)
 have HZ24:Hid (a*(a)=u21):=lh_ zb4_
 have su24:sz u21≤12:=by have e:=HZ24.out;first|omega|(rw [← e];have:=sz_mul a a;omega)
 have lx5:=kc0_ I
 have lx6:=kc1_ I
 have lx8:=kc3_ I
 refine kS fun K O=>?_
 refine pd2_ fun T Y=>?_
 refine tk ?_
 refine ck Tryz.call139 (fun w' hw=>fsign_any (0:Rat) (0) _ xz5) ?_
 iterate 7 refine tk ?_
 refine ck Tryz.call139 (fun w' hw=>fsign_any (0:Rat) (0) _ xz5) ?_
 refine tk2_ ?_
 iterate 7 refine sk ?_
 iterate 4 refine tk ?_
 refine ck Tryz.call145 (fun w' hw=>qi8 a u21 _ (lh_ HZ21.out) om) ?_
 refine ck Tryz.call139 (fun w' hw=>fsign_any u21 t22 _ HT22.out) ?_
 iterate 6 refine tk ?_
 refine ck Tryz.call145 (fun w' hw=>qi8 a u21 _ (lh_ HZ23.out) om) ?_
 refine ck Tryz.call134 (fun w' hw=>fmul_any a a u21 _ HZ24.out om om) ?_
 refine tk ?_
 refine nlD Y I fun vw5 J=>?_
 clear Y T I lx5 lx6 lx8
 go_wp2
 refine kF_ O ((J.out).er 3) fun Wx7 I=>?_;clear O K
 clear J
 clear ht22 hd1
 refine wp_cond_false (by rfl) ?_
 refine wp_skip ?_
 show Code.wp _ _ _ _ _
 have HB:=HPb I
 have HZ25:Hid (a+(c)=u6):=lh_ zb4_
 have su25:sz u6≤13:=by have e:=HZ25.out;first|omega|(rw [← e];have:=qc9 a c;omega)
 have HZ26:Hid ((0:Rat)+(c)=c):=lh_ zb4_
 have su26:sz c≤13:=by have e:=HZ26.out;first|omega|(rw [← e];have:=qc9 (0:Rat) c;omega)
 have HZ27:Hid (a*(c)=u14):=lh_ zb4_
 have su27:sz u14≤12:=by have e:=HZ27.out;first|omega|(rw [← e];have:=sz_mul a c;omega)
 have HZ28:Hid ((0:Rat)*(c)=(0:Rat)):=lh_ zb4_
 have su28:sz ((0:Rat))≤12:=by have e:=HZ28.out;first|omega|(rw [← e];have:=sz_mul (0:Rat) c;omega)
 have hmul:c0*sc=p:=HP.out
 have hmw:IntKind.i64.wrap p=p:=by rw [IntKind.wrap_i64];omega
 have hng:IntKind.i64.wrap (-d0)=c0:=by have e9:=HDC.out;rw [IntKind.wrap_i64];omega
 have lx5:=kc0_ I
 have lx6:=kc1_ I
 have lx7:=kc2_ I
 refine kS fun K O=>?_
 refine pd3_ fun T Y=>?_
 iterate 6 refine tk ?_
 refine ck Tryz.call130 (fun w' hw=>qa_ a c u6 _ HZ25.out om om) ?_
 refine ck Tryz.call130 (fun w' hw=>qa_ (0:Rat) c c _ HZ26.out om om) ?_
 refine ck Tryz.call140 (fun w' hw=>qa3 u6 c c0 _ (by rw [← HC0.out];simp only [← HZ21.out,← HZ14.out,← HZ6.out];first|exact qB0 _ _ _|(congr 1;grind)) om om) ?_
 refine ck Tryz.call140 (fun w' hw=>qa3 a (0:Rat) c0 _ HC0.out om om) ?_
 iterate 9 refine tk ?_
 refine ck Tryz.call134 (fun w' hw=>fmul_any a c u14 _ HZ27.out om om) ?_
 refine ck Tryz.call134 (fun w' hw=>fmul_any (0:Rat) c (0:Rat) _ HZ28.out om om) ?_
 refine ck Tryz.call140 (fun w' hw=>qa3 u14 (0:Rat) p _ (by rw [← HP.out,← HC0.out,← HSC.out];simp only [← HZ21.out,← HZ14.out,← HZ6.out];first|exact qw0 _ _ _|(rw [← qn6];congr 1;grind)) om om) ?_
 refine ck Tryz.call140 (fun w' hw=>qa3 a (0:Rat) c0 _ HC0.out om om) ?_
 refine ck Tryz.call139 (fun w' hw=>fsign_any c sc _ HSC.out) ?_
 iterate 8 refine tk ?_
 refine ck Tryz.call140 (fun w' hw=>qa3 a (0:Rat) c0 _ HC0.out om om) ?_
 refine ck Tryz.call140 (fun w' hw=>qa3 (0:Rat) a d0 _ (HD0.out) om om) ?_
 refine wpPlan_takeL (v:=?_) rfl (by rfl) (fun w' hw=>?_) ?_
 rotate_left
 ·go_simp
  first|(simp only [hng];with_reducible rfl)|with_reducible rfl
 simp only [Act.put,lA,lB,lC]
 refine tk3_ ?_
 refine ck Tryz.call62 (fun w' hw=>worksq_any _ (lh_ (HT.out.gr (Gr.trans HB.out hw)))) ?_
 refine tk ?_
 refine nlD Y I fun vw6 J=>?_
 clear Y T I lx5 lx6 lx7 HB
 go_wp2
 refine kF_ O ((((J.out).er 2).er 1).er 0) fun Wx9 I=>?_;clear O K
 clear J
 clear hmul hmw hng
 refine wp_ret ?_
 try simp only [Exit.then,Exit.inBlock]
 exact bR ⟨rfl,I.out.1⟩ (by simp [results,Tryz.results54,go_sem])
end Go.Proofs.YtobojnodohjiaaaGreatDoor
