
/- DecimalsTurned: the law's walk. -/
import Derived.Test.YtobojnodohjiaaaGreatDoorDecW
import Derived.Test.YtobojnodohjiaaaGreatDoorSgnP
import Derived.Test.YtobojnodohjiaaaGreatDoorPlanQ
set_option maxRecDepth 100000
set_option maxHeartbeats 16000000
set_option linter.unusedVariables false
set_option linter.unusedSimpArgs false
namespace Go.Proofs.YtobojnodohjiaaaGreatDoor
open Go.RowKit
attribute [local go_sem ↓] Go.wp_at_zero Go.wp_at_succ
attribute [local go_sem ↓] eq_nat eq_nat_zero eq_int qh7 qd0
attribute [local go_sem] Instr.field asAgg
theorem xw1 (bbxn:Bool) (vxn:Value) (kxn:Nat) (fxn:Nat→Nat) (mxn:Nat) (ixn:Int) (vxd:Value) (kxd:Nat) (fxd:Nat→Nat) (mxd:Nat) (bbyn:Bool) (vyn:Value) (kyn:Nat) (fyn:Nat→Nat) (myn:Nat) (iyn:Int) (vyd:Value) (kyd:Nat) (fyd:Nat→Nat) (myd:Nat) (a b:Rat) (m n:Int) (r t p q:Nat) (c0 c1 c2:Int) (w:World) (HWxn:Hid (Wa w vxn kxn fxn)) (HFxn:Hid (∀ i,i<kxn→fxn i<4294967296)) (HVxn:Hid (vl fxn kxn=mxn)) (HAxn:Hid ((if bbxn then -((mxn:Nat):Int) else ((mxn:Nat):Int))=ixn)) (HWxd:Hid (Wa w vxd kxd fxd)) (HFxd:Hid (∀ i,i<kxd→fxd i<4294967296)) (HVxd:Hid (vl fxd kxd=mxd)) (HQx:Hid (mkRat ixn (mxd+1)=a)) (HWyn:Hid (Wa w vyn kyn fyn)) (HFyn:Hid (∀ i,i<kyn→fyn i<4294967296)) (HVyn:Hid (vl fyn kyn=myn)) (HAyn:Hid ((if bbyn then -((myn:Nat):Int) else ((myn:Nat):Int))=iyn)) (HWyd:Hid (Wa w vyd kyd fyd)) (HFyd:Hid (∀ i,i<kyd→fyd i<4294967296)) (HVyd:Hid (vl fyd kyd=myd)) (HQy:Hid (mkRat iyn (myd+1)=b)) (hkxn:kxn≤4) (hkxd:kxd≤4) (hkyn:kyn≤4) (hkyd:kyd≤4) (hm1:0≤m) (hm2:m≤255) (hn1:0≤n) (hn2:n≤255) (HMr:Hid (Int.tmod m 101=(r:Int))) (HMt:Hid (Int.tmod n 101=(t:Int))) (hmin:min (r:Int) (t:Int)=(p:Int)) (hmax:max (r:Int) (t:Int)=(q:Int)) (hpq:p≤q) (hq:q≤100) (HC0:Hid (sgQ (a - b)=c0)) (hc0:0<c0) (HAB:Hid (b≤a)) (HC1:Hid (sgQ (rdd 1 b p - rdd 1 b q)=c1)) (hc1:¬ 0<c1) (HC2:Hid (sgQ (rdd 2 b q - rdd 2 b p)=c2)) (hc2:¬ 0<c2) (HCW:Hid (∀ w:Int,¬ 0<sgQ (rdd w b p - rdd w a p))) (HT:Hid (Tab w)) :
  CB 73 #[.agg #[.bool bbxn,vxn,vxd],.agg #[.bool bbyn,vyn,vyd],.int .u8 m,.int .u8 n] w (.bool true):=by
 obtain ⟨ao_xn,c_xn,rfl⟩:=HWxn.out.slice
 obtain ⟨ao_xd,c_xd,rfl⟩:=HWxd.out.slice
 have hm_xn:wl mxn≤4:=by rw [← HVxn.out];have:=qa2.2 (qe3 HFxn.out);omega
 have hm_xd:wl mxd≤4:=by rw [← HVxd.out];have:=qa2.2 (qe3 HFxd.out);omega
 have hi_x:wl (Int.natAbs ixn)≤4:=by rw [qo9 HAxn.out];exact hm_xn
 have hs_x:sz a≤5:=by rw [← HQx.out];exact qe6 hi_x hm_xd
 have hr_x:rz a≤15:=by rw [← HQx.out];exact qf_ hi_x hm_xd (by decide)
 obtain ⟨ao_yn,c_yn,rfl⟩:=HWyn.out.slice
 obtain ⟨ao_yd,c_yd,rfl⟩:=HWyd.out.slice
 have hm_yn:wl myn≤4:=by rw [← HVyn.out];have:=qa2.2 (qe3 HFyn.out);omega
 have hm_yd:wl myd≤4:=by rw [← HVyd.out];have:=qa2.2 (qe3 HFyd.out);omega
 have hi_y:wl (Int.natAbs iyn)≤4:=by rw [qo9 HAyn.out];exact hm_yn
 have hs_y:sz b≤5:=by rw [← HQy.out];exact qe6 hi_y hm_yd
 have hr_y:rz b≤15:=by rw [← HQy.out];exact qf_ hi_y hm_yd (by decide)
 have hwm:IntKind.i64.wrap m=m:=by rw [IntKind.wrap_i64];omega
 have hwn:IntKind.i64.wrap n=n:=by rw [IntKind.wrap_i64];omega
 go_enter Tryz.func73,Tryz.ntmps73
 have I:=lh_ (hp0 w)
 refine kSl fun K O=>?_;go_wp2
 refine kF_ O (al2_ I) fun Wx0 J=>?_;clear O K
 clear I;have I:=J;clear J
 generalize w.heap.size+1=gx1 at *
 refine wp_seq ?_
 have hd1:¬ (4<((kxn:Int))):=by first|exact ok|exact qb2 _ _|exact qb_ _ _|exact qb6 _ _|exact (qb2 _ _).symm|exact (qb_ _ _).symm|exact (qb6 _ _).symm
 have hd2:¬ (4<((kxd:Int))):=by first|exact ok|exact qb2 _ _|exact qb_ _ _|exact qb6 _ _|exact (qb2 _ _).symm|exact (qb_ _ _).symm|exact (qb6 _ _).symm
 have hd3:¬ (4<((kyn:Int))):=by first|exact ok|exact qb2 _ _|exact qb_ _ _|exact qb6 _ _|exact (qb2 _ _).symm|exact (qb_ _ _).symm|exact (qb6 _ _).symm
 have hd4:¬ (4<((kyd:Int))):=by first|exact ok|exact qb2 _ _|exact qb_ _ _|exact qb6 _ _|exact (qb2 _ _).symm|exact (qb_ _ _).symm|exact (qb6 _ _).symm
 have lx0:=kc0_ I
 have lx1:=kc1_ I
 refine qT0 fun K O T Y=>?_
 iterate 24 refine tk ?_
 refine nz Y I O ?_;clear Y T I lx0 lx1 O K;intro vw1 I
 clear hd1 hd2 hd3 hd4
 refine wp_cond_false (by rfl) ?_
 refine wp_skip ?_
 show Code.wp _ _ _ _ _
 have HB:=HPb I
 have lx0:=kc0_ I
 have lx1:=kc1_ I
 refine kS fun K O=>?_
 refine qa1 6 [4,5] [] (fun i=>if i=4 then 9 else 10) (fun i=>if i=4 then .cells #[.int .u64 0,.string ⟨#[]⟩,.bool false,.int .u64 0,.string ⟨#[]⟩] 36 else .cells #[.int .u64 0,.string ⟨#[]⟩,.bool false,.int .u64 0,.string ⟨#[]⟩] 36) [(true,0),(true,2),(true,1),(true,3)] (by kernel_rfl) (by kernel_rfl) zb1_ (fun i hi=>by cases hi) (fun _ _ _ _ _ h=>h) (fun T Y=>?_)
 refine tk2_ ?_
 refine ck Tryz.call35 (fun w' hw=>qf9 bbxn kxn fxn mxn ixn kxd fxd mxd a ao_xn c_xn ao_xd c_xd w' (lh_ (HWxn.out.gr (Gr.trans HB.out hw))) HFxn HVxn HAxn (lh_ (HWxd.out.gr (Gr.trans HB.out hw))) HFxd HVxd HQx om om om om) ?_
 refine ck Tryz.call35 (fun w' hw=>qf9 bbyn kyn fyn myn iyn kyd fyd myd b ao_yn c_yn ao_yd c_yd w' (lh_ (HWyn.out.gr (Gr.trans HB.out hw))) HFyn HVyn HAyn (lh_ (HWyd.out.gr (Gr.trans HB.out hw))) HFyd HVyd HQy om om om om) ?_
 refine qa0 (Y.out _ _ ?_)
 intro G vw2 hg hf
 simp only [puts,Act.put,lA,lB,lC,lD,lE,↓reduceIte,Nat.reduceEqDiff]
 have J:=lh_ (I.out.fr hg hf (zs:=[(#[.int .u64 0,.string ⟨#[]⟩,.bool false,.int .u64 0,.string ⟨#[]⟩],36),(#[.int .u64 0,.string ⟨#[]⟩,.bool false,.int .u64 0,.string ⟨#[]⟩],36)]) rfl (by decide) (by decide))
 simp only [zq1_,zq2_,zq3_,zq4_,lF,lG] at J
 clear Y T I hg hf lx0 lx1 HB
 generalize G 4=gx3 at *
 generalize G 5=gx4 at *
 have lx3:=kc2_ J;have fx3:=kf2_ J
 have lx4:=kc3_ J;have fx4:=kf3_ J
 have r0:=Gr.refl vw2
 obtain ⟨d3_4,d4_3⟩:=J.out.ne 2 3 rfl rfl (by decide)
 go_wp2
 refine kO O ?_;clear O K
 clear r0 lx3 fx3 lx4 fx4 d3_4 d4_3
 refine fH (((((((((J.out).put2 2 0 rfl).put2 2 2 rfl).put 2 4 _ rfl).put2 3 0 rfl).put2 3 2 rfl).put 3 4 _ rfl).er 1).er 0) fun Wx3 I=>?_
 clear J
 refine wp_seq ?_
 have hcc0:0<c0:=by omega
 have lx3:=kc0_ I
 have lx4:=kc1_ I
 refine ks4_ fun K O T Y=>?_
 refine tk2_ ?_
 refine ck Tryz.call140 (fun w' hw=>qc1 a b c0 _ (HC0.out) om om) ?_
 refine tk ?_
 refine nz Y I O ?_;clear Y T I lx3 lx4 O K;intro vw3 I
 clear hcc0
 refine wp_cond_true (by rfl) ?_
 have lx3:=kc0_ I
 have lx4:=kc1_ I
 refine kL fun K O=>?_
 refine sq2_ fun T Y=>?_
 refine tk2_ ?_
 refine nlS Y I fun vw4 J=>?_
 clear Y T I lx3 lx4
 have lx3:=kc0_ J;have fx3:=kf0_ J
 have lx4:=kc1_ J;have fx4:=kf1_ J
 have r0:=Gr.refl vw4
 obtain ⟨d3_4,d4_3⟩:=J.out.ne 0 1 rfl rfl (by decide)
 go_wp2
 refine kO O ?_;clear O K
 clear r0 lx3 fx3 lx4 fx4 d3_4 d4_3
 refine fH (((((((J.out).put2 0 0 rfl).put2 0 2 rfl).put 0 4 _ rfl).put2 1 0 rfl).put2 1 2 rfl).put 1 4 _ rfl) fun Wx5 I=>?_
 clear J
 have hrmr_2:Int.tmod m 101=(r:Int):=HMr.out
 have hrmt_5:Int.tmod n 101=(t:Int):=HMt.out
 have hrmr_9:Int.tmod m 101=(r:Int):=HMr.out
 have hrmt_12:Int.tmod n 101=(t:Int):=HMt.out
 refine xb2 fun K O T Y=>?_
 iterate 16 refine tk ?_
 refine nz Y I O ?_;clear Y T I O K;intro vw5 I
 clear hrmr_2 hrmt_5 hrmr_9 hrmt_12
 obtain ⟨u1,HZ1⟩:=ex_ (rdd 1 b p)
 have su1:sz u1≤18:=by rw [← HZ1.out];exact qb4 om om
 obtain ⟨u2,HZ2⟩:=ex_ (rdd 2 b p)
 have su2:sz u2≤18:=by rw [← HZ2.out];exact qb4 om om
 have lx3:=kc0_ I
 refine ks7_ fun K O T Y=>?_
 refine tk2_ ?_
 refine ck Tryz.call169 (fun w' hw=>qh3 b u1 u2 p _ (lh_ HZ1.out) (lh_ HZ2.out) om om) ?_
 iterate 4 refine tk ?_
 refine nlS Y I fun vw6 J=>?_
 clear Y T I lx3
 go_wp2
 refine kF_ O (((J.out).aL (vw6.heap.size)).aL (vw6.heap.size+1)) fun Wx7 I=>?_;clear O K
 clear J
 generalize vw6.heap.size+1=gx6 at *
 generalize vw6.heap.size=gx5 at *
 obtain ⟨u3,HZ3⟩:=ex_ (-(b))
 have su3:sz u3≤5:=by rw [← HZ3.out];rw [qg7];omega
 obtain ⟨u4,HZ4⟩:=ex_ (rdd 1 u3 p)
 have su4:sz u4≤18:=by rw [← HZ4.out];exact qb4 om om
 obtain ⟨u5,HZ5⟩:=ex_ (rdd 2 u3 p)
 have su5:sz u5≤18:=by rw [← HZ5.out];exact qb4 om om
 have lx3:=kc0_ I
 refine ks8_ fun K O T Y=>?_
 refine tk ?_
 refine ck Tryz.call45 (fun w' hw=>qe5 b u3 _ HZ3.out) ?_
 refine tk ?_
 refine ck Tryz.call169 (fun w' hw=>qh3 u3 u4 u5 p _ (lh_ HZ4.out) (lh_ HZ5.out) om om) ?_
 iterate 4 refine tk ?_
 refine nlS Y I fun vw7 J=>?_
 clear Y T I lx3
 go_wp2
 refine kF_ O (((J.out).aL (vw7.heap.size)).aL (vw7.heap.size+1)) fun Wx8 I=>?_;clear O K
 clear J
 generalize vw7.heap.size+1=gx8 at *
 generalize vw7.heap.size=gx7 at *
 obtain ⟨u6,HZ6⟩:=ex_ (rdd 1 b q)
 have su6:sz u6≤18:=by rw [← HZ6.out];exact qb4 om om
 obtain ⟨u7,HZ7⟩:=ex_ (rdd 2 b q)
 have su7:sz u7≤18:=by rw [← HZ7.out];exact qb4 om om
 have lx3:=kc0_ I
 refine ks7_ fun K O T Y=>?_
 refine tk2_ ?_
 refine ck Tryz.call169 (fun w' hw=>qh3 b u6 u7 q _ (lh_ HZ6.out) (lh_ HZ7.out) om om) ?_
 iterate 4 refine tk ?_
 refine nlS Y I fun vw8 J=>?_
 clear Y T I lx3
 go_wp2
 refine kF_ O (((J.out).aL (vw8.heap.size)).aL (vw8.heap.size+1)) fun Wx9 I=>?_;clear O K
 clear J
 generalize vw8.heap.size+1=gx10 at *
 generalize vw8.heap.size=gx9 at *
 obtain ⟨u8,HZ8⟩:=ex_ (rdd (3) b p)
 have su8:sz u8≤18:=by rw [← HZ8.out];exact qb4 om om
 have lx3:=kc0_ I
 refine ks6_ fun K O T Y=>?_
 refine tk2_ ?_
 refine ck Tryz.call168 (fun w' hw=>qd9 (3) b p u8 _ HZ8.out om om om om) ?_
 refine tk3_ ?_
 refine nlS Y I fun vw9 J=>?_
 clear Y T I lx3
 go_wp2
 refine kF_ O ((J.out).aL (vw9.heap.size)) fun Wx10 I=>?_;clear O K
 clear J
 generalize vw9.heap.size=gx11 at *
 have HZ9:Hid (-(b)=u3):=lh_ xM4
 have su9:sz u3≤5:=by have e:=HZ9.out;first|omega|(rw [← e];rw [qg7];omega)
 obtain ⟨u10,HZ10⟩:=ex_ (rdd (3) u3 p)
 have su10:sz u10≤18:=by rw [← HZ10.out];exact qb4 om om
 have lx3:=kc0_ I
 refine ks7_ fun K O T Y=>?_
 refine tk ?_
 refine ck Tryz.call45 (fun w' hw=>qe5 b u3 _ HZ9.out) ?_
 refine tk ?_
 refine ck Tryz.call168 (fun w' hw=>qd9 (3) u3 p u10 _ HZ10.out om om om om) ?_
 refine tk3_ ?_
 refine nlS Y I fun vw10 J=>?_
 clear Y T I lx3
 go_wp2
 refine kF_ O ((J.out).aL (vw10.heap.size)) fun Wx11 I=>?_;clear O K
 clear J
 generalize vw10.heap.size=gx12 at *
 refine wp_seq ?_
 have HZ11:Hid (-(u2)=u4):=lh_ zb5_
 have su11:sz u4≤18:=by have e:=HZ11.out;first|omega|(rw [← e];rw [qg7];omega)
 have HZ12:Hid (-(u1)=u5):=lh_ zb5_
 have su12:sz u5≤18:=by have e:=HZ12.out;first|omega|(rw [← e];rw [qg7];omega)
 have HZ13:Hid (-(u8)=u10):=lh_ zb5_
 have su13:sz u10≤18:=by have e:=HZ13.out;first|omega|(rw [← e];rw [qg7];omega)
 have hcc1:¬ 0<c1:=by omega
 have hcc2:¬ 0<c2:=by omega
 have lx5:=kc2_ I
 have lx6:=kc3_ I
 have lx7:=kc4_ I
 have lx8:=kc5_ I
 have lx9:=kc6_ I
 have lx10:=kc7_ I
 have lx11:=kc8_ I
 have lx12:=kc9_ I
 refine kS fun K O=>?_
 refine xI2 fun T Y=>?_
 refine tk2_ ?_
 refine ck Tryz.call45 (fun w' hw=>qe5 u2 u4 _ HZ11.out) ?_
 iterate 4 refine tk ?_
 refine ck Tryz.call45 (fun w' hw=>qe5 u1 u5 _ HZ12.out) ?_
 iterate 5 refine tk ?_
 refine ck Tryz.call45 (fun w' hw=>qe5 u8 u10 _ HZ13.out) ?_
 iterate 5 refine tk ?_
 refine ck Tryz.call140 (fun w' hw=>qc1 u1 u6 c1 _ xN2 om om) ?_
 iterate 5 refine tk ?_
 refine ck Tryz.call140 (fun w' hw=>qc1 u7 u2 c2 _ xN1 om om) ?_
 refine tk ?_
 refine nlD Y I fun vw11 J=>?_
 clear Y T I lx5 lx6 lx7 lx8 lx9 lx10 lx11 lx12
 go_wp2
 refine kF_ O (((((((((J.out).er 9).er 8).er 7).er 6).er 5).er 4).er 3).er 2) fun Wx12 I=>?_;clear O K
 clear J
 clear hcc1 hcc2
 refine wp_cond_false (by rfl) ?_
 refine wp_skip ?_
 show Code.wp _ _ _ _ _
 refine wp_seq ?_
 refine kSl fun K O=>?_;go_wp2
 refine kF_ O (I.out) fun Wx14 J=>?_;clear O K
 clear I;have I:=J;clear J
 refine wp_block ?_
 go_loopg [26] 3 (fun k iv wr=>∃ j:Nat,iv=.int .i64 (j:Int)∧j+k=4∧1≤j∧Hid (HP w wr [Sum.inl (gx3,36,#[.int .u64 (lo b.num.natAbs),.string (bg b.num.natAbs),.bool (b.num<0),.int .u64 (lo (b.den - 1)),.string (bg (b.den - 1))]),Sum.inl (gx4,36,#[.int .u64 (lo a.num.natAbs),.string (bg a.num.natAbs),.bool (a.num<0),.int .u64 (lo (a.den - 1)),.string (bg (a.den - 1))])]))
 case atStart=>exact ⟨1,rfl,rfl,Nat.le_refl _,I⟩
 case round =>
  rename_i J_ K_ h1_ h0_
  clear I
  obtain ⟨j,rfl,hjk,hj1,I⟩:=hrel
  rcases gk with _|k9
  ·refine wp_seq ?_
   have hle9:¬ (j:Int)≤3:=by omega
   refine ks2_ fun K O T Y=>?_
   refine tk2_ ?_
   refine nz Y I O ?_;clear Y T I O K;intro vw12 I
   clear hle9
   refine wp_cond_false (by rfl) ?_
   refine wp_exit ?_
   show Code.wp _ _ _ _ _
   have HB:=HPb I
   refine ks2_ fun K O T Y=>?_
   refine ck Tryz.call64 (fun w' hw=>worksd_any _ (lh_ (HT.out.gr (Gr.trans HB.out hw)))) ?_
   refine tk ?_
   refine nzR Y O (fun w2 hg=>((I.out.gr hg).er 1).er 0) ?_;clear Y T I HB O K;intro Wx21 I
   refine wp_ret ?_
   try simp only [Exit.then,Exit.inBlock]
   exact bR ⟨rfl,I.out.1⟩ qW0
  obtain ⟨c3,HC3⟩:∃ z,Hid (sgQ (rdd (j:Int) b p - rdd (j:Int) a p)=z):=⟨_,lh_ rfl⟩
  have hc3:¬ 0<c3:=by have e9:=HCW.out (j:Int);have e8:=HC3.out;omega
  refine wp_seq ?_
  have hle9:(j:Int)≤3:=by omega
  refine ks2_ fun K O T Y=>?_
  refine tk2_ ?_
  refine nz Y I O ?_;clear Y T I O K;intro vw12 I
  clear hle9
  refine wp_cond_true (by rfl) ?_
  refine wp_skip ?_
  show Code.wp _ _ _ _ _
  refine wp_seq ?_
  refine wp_block ?_
  obtain ⟨u14,HZ14⟩:=ex_ (rdd ((j:Int)) b p)
  have su14:sz u14≤18:=by rw [← HZ14.out];exact qb4 om om
  have lx3:=kc0_ I
  refine ks7_ fun K O T Y=>?_
  refine tk3_ ?_
  refine ck Tryz.call168 (fun w' hw=>qd9 ((j:Int)) b p u14 _ HZ14.out om om om om) ?_
  refine tk3_ ?_
  refine nlS Y I fun vw13 J=>?_
  clear Y T I lx3
  go_wp2
  refine kF_ O ((J.out).aL (vw13.heap.size)) fun Wx17 I=>?_;clear O K
  clear J
  generalize vw13.heap.size=gx13 at *
  obtain ⟨u15,HZ15⟩:=ex_ (rdd ((j:Int)) a p)
  have su15:sz u15≤18:=by rw [← HZ15.out];exact qb4 om om
  have lx4:=kc1_ I
  refine ks7_ fun K O T Y=>?_
  refine tk3_ ?_
  refine ck Tryz.call168 (fun w' hw=>qd9 ((j:Int)) a p u15 _ HZ15.out om om om om) ?_
  refine tk3_ ?_
  refine nlS Y I fun vw14 J=>?_
  clear Y T I lx4
  go_wp2
  refine kF_ O ((J.out).aL (vw14.heap.size)) fun Wx18 I=>?_;clear O K
  clear J
  generalize vw14.heap.size=gx14 at *
  have hcc3:¬ 0<c3:=by omega
  have lx13:=kc2_ I
  have lx14:=kc3_ I
  refine ks4_ fun K O T Y=>?_
  refine tk2_ ?_
  refine ck Tryz.call140 (fun w' hw=>qc1 u14 u15 c3 _ xM6 om om) ?_
  refine tk ?_
  refine nz Y I O ?_;clear Y T I lx13 lx14 O K;intro vw15 I
  clear hcc3
  refine wp_cond_false (by rfl) ?_
  refine wp_skip ?_
  show Code.wp _ _ _ _ _
  have hwi:IntKind.i64.wrap ((j:Int)+1)=(j:Int)+1:=by rw [IntKind.wrap_i64];omega
  refine kL fun K O=>?_
  refine sq3_ fun T Y=>?_
  refine tk3_ ?_
  refine nlS Y I fun vw16 J=>?_
  clear Y T I
  go_wp2
  refine O.out _ _ ?_;clear O K
  try simp only [Exit.then,Exit.inBlock]
  have I:=lh_ (J.out);clear J
  clear hwi
  refine h0_ _ _ ?_
  go_roundg k9
  case measure=>omega
  case rel=>exact ⟨j+1,rfl,by omega,by omega,lh_ (((I.out).er 3).er 2)⟩
theorem xw0 (bbxn:Bool) (vxn:Value) (kxn:Nat) (fxn:Nat→Nat) (mxn:Nat) (ixn:Int) (vxd:Value) (kxd:Nat) (fxd:Nat→Nat) (mxd:Nat) (bbyn:Bool) (vyn:Value) (kyn:Nat) (fyn:Nat→Nat) (myn:Nat) (iyn:Int) (vyd:Value) (kyd:Nat) (fyd:Nat→Nat) (myd:Nat) (a b:Rat) (m n:Int) (r t p q:Nat) (c0 c1 c2:Int) (w:World) (HWxn:Hid (Wa w vxn kxn fxn)) (HFxn:Hid (∀ i,i<kxn→fxn i<4294967296)) (HVxn:Hid (vl fxn kxn=mxn)) (HAxn:Hid ((if bbxn then -((mxn:Nat):Int) else ((mxn:Nat):Int))=ixn)) (HWxd:Hid (Wa w vxd kxd fxd)) (HFxd:Hid (∀ i,i<kxd→fxd i<4294967296)) (HVxd:Hid (vl fxd kxd=mxd)) (HQx:Hid (mkRat ixn (mxd+1)=a)) (HWyn:Hid (Wa w vyn kyn fyn)) (HFyn:Hid (∀ i,i<kyn→fyn i<4294967296)) (HVyn:Hid (vl fyn kyn=myn)) (HAyn:Hid ((if bbyn then -((myn:Nat):Int) else ((myn:Nat):Int))=iyn)) (HWyd:Hid (Wa w vyd kyd fyd)) (HFyd:Hid (∀ i,i<kyd→fyd i<4294967296)) (HVyd:Hid (vl fyd kyd=myd)) (HQy:Hid (mkRat iyn (myd+1)=b)) (hkxn:kxn≤4) (hkxd:kxd≤4) (hkyn:kyn≤4) (hkyd:kyd≤4) (hm1:0≤m) (hm2:m≤255) (hn1:0≤n) (hn2:n≤255) (HMr:Hid (Int.tmod m 101=(r:Int))) (HMt:Hid (Int.tmod n 101=(t:Int))) (hmin:min (r:Int) (t:Int)=(p:Int)) (hmax:max (r:Int) (t:Int)=(q:Int)) (hpq:p≤q) (hq:q≤100) (HC0:Hid (sgQ (a - b)=c0)) (hc0:¬ 0<c0) (HAB:Hid (a≤b)) (HC1:Hid (sgQ (rdd 1 a p - rdd 1 a q)=c1)) (hc1:¬ 0<c1) (HC2:Hid (sgQ (rdd 2 a q - rdd 2 a p)=c2)) (hc2:¬ 0<c2) (HCW:Hid (∀ w:Int,¬ 0<sgQ (rdd w a p - rdd w b p))) (HT:Hid (Tab w)) :
  CB 73 #[.agg #[.bool bbxn,vxn,vxd],.agg #[.bool bbyn,vyn,vyd],.int .u8 m,.int .u8 n] w (.bool true):=by
 obtain ⟨ao_xn,c_xn,rfl⟩:=HWxn.out.slice
 obtain ⟨ao_xd,c_xd,rfl⟩:=HWxd.out.slice
 have hm_xn:wl mxn≤4:=by rw [← HVxn.out];have:=qa2.2 (qe3 HFxn.out);omega
 have hm_xd:wl mxd≤4:=by rw [← HVxd.out];have:=qa2.2 (qe3 HFxd.out);omega
 have hi_x:wl (Int.natAbs ixn)≤4:=by rw [qo9 HAxn.out];exact hm_xn
 have hs_x:sz a≤5:=by rw [← HQx.out];exact qe6 hi_x hm_xd
 have hr_x:rz a≤15:=by rw [← HQx.out];exact qf_ hi_x hm_xd (by decide)
 obtain ⟨ao_yn,c_yn,rfl⟩:=HWyn.out.slice
 obtain ⟨ao_yd,c_yd,rfl⟩:=HWyd.out.slice
 have hm_yn:wl myn≤4:=by rw [← HVyn.out];have:=qa2.2 (qe3 HFyn.out);omega
 have hm_yd:wl myd≤4:=by rw [← HVyd.out];have:=qa2.2 (qe3 HFyd.out);omega
 have hi_y:wl (Int.natAbs iyn)≤4:=by rw [qo9 HAyn.out];exact hm_yn
 have hs_y:sz b≤5:=by rw [← HQy.out];exact qe6 hi_y hm_yd
 have hr_y:rz b≤15:=by rw [← HQy.out];exact qf_ hi_y hm_yd (by decide)
 have hwm:IntKind.i64.wrap m=m:=by rw [IntKind.wrap_i64];omega
 have hwn:IntKind.i64.wrap n=n:=by rw [IntKind.wrap_i64];omega
 go_enter Tryz.func73,Tryz.ntmps73
 have I:=lh_ (hp0 w)
 refine kSl fun K O=>?_;go_wp2
 refine kF_ O (al2_ I) fun Wx0 J=>?_;clear O K
 clear I;have I:=J;clear J
 generalize w.heap.size+1=gx1 at *
 refine wp_seq ?_
 have hd1:¬ (4<((kxn:Int))):=by first|exact ok|exact qb2 _ _|exact qb_ _ _|exact qb6 _ _|exact (qb2 _ _).symm|exact (qb_ _ _).symm|exact (qb6 _ _).symm
 have hd2:¬ (4<((kxd:Int))):=by first|exact ok|exact qb2 _ _|exact qb_ _ _|exact qb6 _ _|exact (qb2 _ _).symm|exact (qb_ _ _).symm|exact (qb6 _ _).symm
 have hd3:¬ (4<((kyn:Int))):=by first|exact ok|exact qb2 _ _|exact qb_ _ _|exact qb6 _ _|exact (qb2 _ _).symm|exact (qb_ _ _).symm|exact (qb6 _ _).symm
 have hd4:¬ (4<((kyd:Int))):=by first|exact ok|exact qb2 _ _|exact qb_ _ _|exact qb6 _ _|exact (qb2 _ _).symm|exact (qb_ _ _).symm|exact (qb6 _ _).symm
 have lx0:=kc0_ I
 have lx1:=kc1_ I
 refine qT0 fun K O T Y=>?_
 iterate 24 refine tk ?_
 refine nz Y I O ?_;clear Y T I lx0 lx1 O K;intro vw1 I
 clear hd1 hd2 hd3 hd4
 refine wp_cond_false (by rfl) ?_
 refine wp_skip ?_
 show Code.wp _ _ _ _ _
 have HB:=HPb I
 have lx0:=kc0_ I
 have lx1:=kc1_ I
 refine kS fun K O=>?_
 refine qa1 6 [4,5] [] (fun i=>if i=4 then 9 else 10) (fun i=>if i=4 then .cells #[.int .u64 0,.string ⟨#[]⟩,.bool false,.int .u64 0,.string ⟨#[]⟩] 36 else .cells #[.int .u64 0,.string ⟨#[]⟩,.bool false,.int .u64 0,.string ⟨#[]⟩] 36) [(true,0),(true,2),(true,1),(true,3)] (by kernel_rfl) (by kernel_rfl) zb1_ (fun i hi=>by cases hi) (fun _ _ _ _ _ h=>h) (fun T Y=>?_)
 refine tk2_ ?_
 refine ck Tryz.call35 (fun w' hw=>qf9 bbxn kxn fxn mxn ixn kxd fxd mxd a ao_xn c_xn ao_xd c_xd w' (lh_ (HWxn.out.gr (Gr.trans HB.out hw))) HFxn HVxn HAxn (lh_ (HWxd.out.gr (Gr.trans HB.out hw))) HFxd HVxd HQx om om om om) ?_
 refine ck Tryz.call35 (fun w' hw=>qf9 bbyn kyn fyn myn iyn kyd fyd myd b ao_yn c_yn ao_yd c_yd w' (lh_ (HWyn.out.gr (Gr.trans HB.out hw))) HFyn HVyn HAyn (lh_ (HWyd.out.gr (Gr.trans HB.out hw))) HFyd HVyd HQy om om om om) ?_
 refine qa0 (Y.out _ _ ?_)
 intro G vw2 hg hf
 simp only [puts,Act.put,lA,lB,lC,lD,lE,↓reduceIte,Nat.reduceEqDiff]
 have J:=lh_ (I.out.fr hg hf (zs:=[(#[.int .u64 0,.string ⟨#[]⟩,.bool false,.int .u64 0,.string ⟨#[]⟩],36),(#[.int .u64 0,.string ⟨#[]⟩,.bool false,.int .u64 0,.string ⟨#[]⟩],36)]) rfl (by decide) (by decide))
 simp only [zq1_,zq2_,zq3_,zq4_,lF,lG] at J
 clear Y T I hg hf lx0 lx1 HB
 generalize G 4=gx3 at *
 generalize G 5=gx4 at *
 have lx3:=kc2_ J;have fx3:=kf2_ J
 have lx4:=kc3_ J;have fx4:=kf3_ J
 have r0:=Gr.refl vw2
 obtain ⟨d3_4,d4_3⟩:=J.out.ne 2 3 rfl rfl (by decide)
 go_wp2
 refine kO O ?_;clear O K
 clear r0 lx3 fx3 lx4 fx4 d3_4 d4_3
 refine fH (((((((((J.out).put2 2 0 rfl).put2 2 2 rfl).put 2 4 _ rfl).put2 3 0 rfl).put2 3 2 rfl).put 3 4 _ rfl).er 1).er 0) fun Wx3 I=>?_
 clear J
 refine wp_seq ?_
 have hcc0:¬ 0<c0:=by omega
 have lx3:=kc0_ I
 have lx4:=kc1_ I
 refine ks4_ fun K O T Y=>?_
 refine tk2_ ?_
 refine ck Tryz.call140 (fun w' hw=>qc1 a b c0 _ (HC0.out) om om) ?_
 refine tk ?_
 refine nz Y I O ?_;clear Y T I lx3 lx4 O K;intro vw3 I
 clear hcc0
 refine wp_cond_false (by rfl) ?_
 refine wp_skip ?_
 show Code.wp _ _ _ _ _
 have hrmr_2:Int.tmod m 101=(r:Int):=HMr.out
 have hrmt_5:Int.tmod n 101=(t:Int):=HMt.out
 have hrmr_9:Int.tmod m 101=(r:Int):=HMr.out
 have hrmt_12:Int.tmod n 101=(t:Int):=HMt.out
 refine xb2 fun K O T Y=>?_
 iterate 16 refine tk ?_
 refine nz Y I O ?_;clear Y T I O K;intro vw4 I
 clear hrmr_2 hrmt_5 hrmr_9 hrmt_12
 obtain ⟨u1,HZ1⟩:=ex_ (rdd 1 a p)
 have su1:sz u1≤18:=by rw [← HZ1.out];exact qb4 om om
 obtain ⟨u2,HZ2⟩:=ex_ (rdd 2 a p)
 have su2:sz u2≤18:=by rw [← HZ2.out];exact qb4 om om
 have lx3:=kc0_ I
 refine ks7_ fun K O T Y=>?_
 refine tk2_ ?_
 refine ck Tryz.call169 (fun w' hw=>qh3 a u1 u2 p _ (lh_ HZ1.out) (lh_ HZ2.out) om om) ?_
 iterate 4 refine tk ?_
 refine nlS Y I fun vw5 J=>?_
 clear Y T I lx3
 go_wp2
 refine kF_ O (((J.out).aL (vw5.heap.size)).aL (vw5.heap.size+1)) fun Wx7 I=>?_;clear O K
 clear J
 generalize vw5.heap.size+1=gx6 at *
 generalize vw5.heap.size=gx5 at *
 obtain ⟨u3,HZ3⟩:=ex_ (-(a))
 have su3:sz u3≤5:=by rw [← HZ3.out];rw [qg7];omega
 obtain ⟨u4,HZ4⟩:=ex_ (rdd 1 u3 p)
 have su4:sz u4≤18:=by rw [← HZ4.out];exact qb4 om om
 obtain ⟨u5,HZ5⟩:=ex_ (rdd 2 u3 p)
 have su5:sz u5≤18:=by rw [← HZ5.out];exact qb4 om om
 have lx3:=kc0_ I
 refine ks8_ fun K O T Y=>?_
 refine tk ?_
 refine ck Tryz.call45 (fun w' hw=>qe5 a u3 _ HZ3.out) ?_
 refine tk ?_
 refine ck Tryz.call169 (fun w' hw=>qh3 u3 u4 u5 p _ (lh_ HZ4.out) (lh_ HZ5.out) om om) ?_
 iterate 4 refine tk ?_
 refine nlS Y I fun vw6 J=>?_
 clear Y T I lx3
 go_wp2
 refine kF_ O (((J.out).aL (vw6.heap.size)).aL (vw6.heap.size+1)) fun Wx8 I=>?_;clear O K
 clear J
 generalize vw6.heap.size+1=gx8 at *
 generalize vw6.heap.size=gx7 at *
 obtain ⟨u6,HZ6⟩:=ex_ (rdd 1 a q)
 have su6:sz u6≤18:=by rw [← HZ6.out];exact qb4 om om
 obtain ⟨u7,HZ7⟩:=ex_ (rdd 2 a q)
 have su7:sz u7≤18:=by rw [← HZ7.out];exact qb4 om om
 have lx3:=kc0_ I
 refine ks7_ fun K O T Y=>?_
 refine tk2_ ?_
 refine ck Tryz.call169 (fun w' hw=>qh3 a u6 u7 q _ (lh_ HZ6.out) (lh_ HZ7.out) om om) ?_
 iterate 4 refine tk ?_
 refine nlS Y I fun vw7 J=>?_
 clear Y T I lx3
 go_wp2
 refine kF_ O (((J.out).aL (vw7.heap.size)).aL (vw7.heap.size+1)) fun Wx9 I=>?_;clear O K
 clear J
 generalize vw7.heap.size+1=gx10 at *
 generalize vw7.heap.size=gx9 at *
 obtain ⟨u8,HZ8⟩:=ex_ (rdd (3) a p)
 have su8:sz u8≤18:=by rw [← HZ8.out];exact qb4 om om
 have lx3:=kc0_ I
 refine ks6_ fun K O T Y=>?_
 refine tk2_ ?_
 refine ck Tryz.call168 (fun w' hw=>qd9 (3) a p u8 _ HZ8.out om om om om) ?_
 refine tk3_ ?_
 refine nlS Y I fun vw8 J=>?_
 clear Y T I lx3
 go_wp2
 refine kF_ O ((J.out).aL (vw8.heap.size)) fun Wx10 I=>?_;clear O K
 clear J
 generalize vw8.heap.size=gx11 at *
 have HZ9:Hid (-(a)=u3):=lh_ xM4
 have su9:sz u3≤5:=by have e:=HZ9.out;first|omega|(rw [← e];rw [qg7];omega)
 obtain ⟨u10,HZ10⟩:=ex_ (rdd (3) u3 p)
 have su10:sz u10≤18:=by rw [← HZ10.out];exact qb4 om om
 have lx3:=kc0_ I
 refine ks7_ fun K O T Y=>?_
 refine tk ?_
 refine ck Tryz.call45 (fun w' hw=>qe5 a u3 _ HZ9.out) ?_
 refine tk ?_
 refine ck Tryz.call168 (fun w' hw=>qd9 (3) u3 p u10 _ HZ10.out om om om om) ?_
 refine tk3_ ?_
 refine nlS Y I fun vw9 J=>?_
 clear Y T I lx3
 go_wp2
 refine kF_ O ((J.out).aL (vw9.heap.size)) fun Wx11 I=>?_;clear O K
 clear J
 generalize vw9.heap.size=gx12 at *
 refine wp_seq ?_
 have HZ11:Hid (-(u2)=u4):=lh_ zb5_
 have su11:sz u4≤18:=by have e:=HZ11.out;first|omega|(rw [← e];rw [qg7];omega)
 have HZ12:Hid (-(u1)=u5):=lh_ zb5_
 have su12:sz u5≤18:=by have e:=HZ12.out;first|omega|(rw [← e];rw [qg7];omega)
 have HZ13:Hid (-(u8)=u10):=lh_ zb5_
 have su13:sz u10≤18:=by have e:=HZ13.out;first|omega|(rw [← e];rw [qg7];omega)
 have hcc1:¬ 0<c1:=by omega
 have hcc2:¬ 0<c2:=by omega
 have lx5:=kc2_ I
 have lx6:=kc3_ I
 have lx7:=kc4_ I
 have lx8:=kc5_ I
 have lx9:=kc6_ I
 have lx10:=kc7_ I
 have lx11:=kc8_ I
 have lx12:=kc9_ I
 refine kS fun K O=>?_
 refine xI2 fun T Y=>?_
 refine tk2_ ?_
 refine ck Tryz.call45 (fun w' hw=>qe5 u2 u4 _ HZ11.out) ?_
 iterate 4 refine tk ?_
 refine ck Tryz.call45 (fun w' hw=>qe5 u1 u5 _ HZ12.out) ?_
 iterate 5 refine tk ?_
 refine ck Tryz.call45 (fun w' hw=>qe5 u8 u10 _ HZ13.out) ?_
 iterate 5 refine tk ?_
 refine ck Tryz.call140 (fun w' hw=>qc1 u1 u6 c1 _ xN2 om om) ?_
 iterate 5 refine tk ?_
 refine ck Tryz.call140 (fun w' hw=>qc1 u7 u2 c2 _ xN1 om om) ?_
 refine tk ?_
 refine nlD Y I fun vw10 J=>?_
 clear Y T I lx5 lx6 lx7 lx8 lx9 lx10 lx11 lx12
 go_wp2
 refine kF_ O (((((((((J.out).er 9).er 8).er 7).er 6).er 5).er 4).er 3).er 2) fun Wx12 I=>?_;clear O K
 clear J
 clear hcc1 hcc2
 refine wp_cond_false (by rfl) ?_
 refine wp_skip ?_
 show Code.wp _ _ _ _ _
 refine wp_seq ?_
 refine kSl fun K O=>?_;go_wp2
 refine kF_ O (I.out) fun Wx14 J=>?_;clear O K
 clear I;have I:=J;clear J
 refine wp_block ?_
 go_loopg [26] 3 (fun k iv wr=>∃ j:Nat,iv=.int .i64 (j:Int)∧j+k=4∧1≤j∧Hid (HP w wr [Sum.inl (gx3,36,#[.int .u64 (lo a.num.natAbs),.string (bg a.num.natAbs),.bool (a.num<0),.int .u64 (lo (a.den - 1)),.string (bg (a.den - 1))]),Sum.inl (gx4,36,#[.int .u64 (lo b.num.natAbs),.string (bg b.num.natAbs),.bool (b.num<0),.int .u64 (lo (b.den - 1)),.string (bg (b.den - 1))])]))
 case atStart=>exact ⟨1,rfl,rfl,Nat.le_refl _,I⟩
 case round =>
  rename_i J_ K_ h1_ h0_
  clear I
  obtain ⟨j,rfl,hjk,hj1,I⟩:=hrel
  rcases gk with _|k9
  ·refine wp_seq ?_
   have hle9:¬ (j:Int)≤3:=by omega
   refine ks2_ fun K O T Y=>?_
   refine tk2_ ?_
   refine nz Y I O ?_;clear Y T I O K;intro vw11 I
   clear hle9
   refine wp_cond_false (by rfl) ?_
   refine wp_exit ?_
   show Code.wp _ _ _ _ _
   have HB:=HPb I
   refine ks2_ fun K O T Y=>?_
   refine ck Tryz.call64 (fun w' hw=>worksd_any _ (lh_ (HT.out.gr (Gr.trans HB.out hw)))) ?_
   refine tk ?_
   refine nzR Y O (fun w2 hg=>((I.out.gr hg).er 1).er 0) ?_;clear Y T I HB O K;intro Wx21 I
   refine wp_ret ?_
   try simp only [Exit.then,Exit.inBlock]
   exact bR ⟨rfl,I.out.1⟩ qW0
  obtain ⟨c3,HC3⟩:∃ z,Hid (sgQ (rdd (j:Int) a p - rdd (j:Int) b p)=z):=⟨_,lh_ rfl⟩
  have hc3:¬ 0<c3:=by have e9:=HCW.out (j:Int);have e8:=HC3.out;omega
  refine wp_seq ?_
  have hle9:(j:Int)≤3:=by omega
  refine ks2_ fun K O T Y=>?_
  refine tk2_ ?_
  refine nz Y I O ?_;clear Y T I O K;intro vw11 I
  clear hle9
  refine wp_cond_true (by rfl) ?_
  refine wp_skip ?_
  show Code.wp _ _ _ _ _
  refine wp_seq ?_
  refine wp_block ?_
  obtain ⟨u14,HZ14⟩:=ex_ (rdd ((j:Int)) a p)
  have su14:sz u14≤18:=by rw [← HZ14.out];exact qb4 om om
  have lx3:=kc0_ I
  refine ks7_ fun K O T Y=>?_
  refine tk3_ ?_
  refine ck Tryz.call168 (fun w' hw=>qd9 ((j:Int)) a p u14 _ HZ14.out om om om om) ?_
  refine tk3_ ?_
  refine nlS Y I fun vw12 J=>?_
  clear Y T I lx3
  go_wp2
  refine kF_ O ((J.out).aL (vw12.heap.size)) fun Wx17 I=>?_;clear O K
  clear J
  generalize vw12.heap.size=gx13 at *
  obtain ⟨u15,HZ15⟩:=ex_ (rdd ((j:Int)) b p)
  have su15:sz u15≤18:=by rw [← HZ15.out];exact qb4 om om
  have lx4:=kc1_ I
  refine ks7_ fun K O T Y=>?_
  refine tk3_ ?_
  refine ck Tryz.call168 (fun w' hw=>qd9 ((j:Int)) b p u15 _ HZ15.out om om om om) ?_
  refine tk3_ ?_
  refine nlS Y I fun vw13 J=>?_
  clear Y T I lx4
  go_wp2
  refine kF_ O ((J.out).aL (vw13.heap.size)) fun Wx18 I=>?_;clear O K
  clear J
  generalize vw13.heap.size=gx14 at *
  have hcc3:¬ 0<c3:=by omega
  have lx13:=kc2_ I
  have lx14:=kc3_ I
  refine ks4_ fun K O T Y=>?_
  refine tk2_ ?_
  refine ck Tryz.call140 (fun w' hw=>qc1 u14 u15 c3 _ xM6 om om) ?_
  refine tk ?_
  refine nz Y I O ?_;clear Y T I lx13 lx14 O K;intro vw14 I
  clear hcc3
  refine wp_cond_false (by rfl) ?_
  refine wp_skip ?_
  show Code.wp _ _ _ _ _
  have hwi:IntKind.i64.wrap ((j:Int)+1)=(j:Int)+1:=by rw [IntKind.wrap_i64];omega
  refine kL fun K O=>?_
  refine sq3_ fun T Y=>?_
  refine tk3_ ?_
  refine nlS Y I fun vw15 J=>?_
  clear Y T I
  go_wp2
  refine O.out _ _ ?_;clear O K
  try simp only [Exit.then,Exit.inBlock]
  have I:=lh_ (J.out);clear J
  clear hwi
  refine h0_ _ _ ?_
  go_roundg k9
  case measure=>omega
  case rel=>exact ⟨j+1,rfl,by omega,by omega,lh_ (((I.out).er 3).er 2)⟩
end Go.Proofs.YtobojnodohjiaaaGreatDoor
