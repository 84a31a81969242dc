
/- FracsLowest: the law's walk. -/
import Derived.Test.YtobojnodohjiaaaGreatDoorWorksQ
import Derived.Test.YtobojnodohjiaaaGreatDoorQFew1
import Derived.Test.YtobojnodohjiaaaGreatDoorFieldP
set_option maxRecDepth 100000
set_option maxHeartbeats 16000000
set_option linter.unusedVariables false
set_option linter.unusedSimpArgs false
namespace Go.Proofs.YtobojnodohjiaaaGreatDoor
open Go.RowKit
attribute [local go_sem ↓] Go.wp_at_zero Go.wp_at_succ
attribute [local go_sem ↓] eq_nat eq_nat_zero eq_int eq_frac eq_frac_zero
attribute [local go_sem] Instr.field asAgg
theorem lowq_wz (bbxn:Bool) (vxn:Value) (kxn:Nat) (fxn:Nat→Nat) (mxn:Nat) (ixn:Int) (vxd:Value) (kxd:Nat) (fxd:Nat→Nat) (mxd:Nat) (a:Rat)  (w:World) (HWxn:Hid (Wa w vxn kxn fxn)) (HFxn:Hid (∀ i,i<kxn→fxn i<4294967296)) (HVxn:Hid (vl fxn kxn=mxn)) (HAxn:Hid ((if bbxn then -((mxn:Nat):Int) else ((mxn:Nat):Int))=ixn)) (HWxd:Hid (Wa w vxd kxd fxd)) (HFxd:Hid (∀ i,i<kxd→fxd i<4294967296)) (HVxd:Hid (vl fxd kxd=mxd)) (HQx:Hid (mkRat ixn (mxd+1)=a)) (hkxn:kxn≤8) (hkxd:kxd≤8) (HW:Hid (a.den=1)) (HT:Hid (Tab w)) :
  CB 55 #[.agg #[.bool bbxn,vxn,vxd],.int .i64 0] w (.bool true):=by
 obtain ⟨ao_xn,c_xn,rfl⟩:=HWxn.out.slice
 obtain ⟨ao_xd,c_xd,rfl⟩:=HWxd.out.slice
 have hm_xn:wl mxn≤8:=by rw [← HVxn.out];have:=wl_le.2 (vl_lt HFxn.out);omega
 have hm_xd:wl mxd≤8:=by rw [← HVxd.out];have:=wl_le.2 (vl_lt HFxd.out);omega
 have hi_x:wl (Int.natAbs ixn)≤8:=by rw [zsize HAxn.out];exact hm_xn
 have hs_x:sz a≤9:=by rw [← HQx.out];exact sz_great hi_x hm_xd
 have hr_x:rz a≤27:=by rw [← HQx.out];exact qc2 hi_x hm_xd (by decide)
 go_enter Tryz.func55,Tryz.ntmps55
 have I:=lh_ (hp0 w)
 refine kSl fun K O=>?_;go_wp2
 refine kF_ O (al1_ I) fun Wx0 J=>?_;clear O K
 clear I;have I:=J;clear J
 refine wp_seq ?_
 have lx0:=kc0_ I
 refine kS fun K O=>?_
 have HG0:Hid (Gr Wx0 Wx0):=lh_ (Gr.refl _)
 refine sq4_ fun T Y=>?_
 refine tk ?_
 refine qb5 (cs:=#[.bool bbxn,(.slice ao_xn kxn c_xn),(.slice ao_xd kxd c_xd)]) (E:=83) (n:=1) rfl (by rfl) (fun w' hw=>?_) (fun gx2 vv2 hg0 yx2 bx2=>?_)
 ·go_simp
 clear yx2
 replace HG0:=lh_ (HG0.out.trans hg0)
 have HGS:=lh_ hg0;clear hg0
 clear HGS
 have BX2:=lh_ bx2;clear bx2
 clear lx0;have lx0:=kg0_ I HG0
 simp only [Act.put,lA,lB,lC]
 refine ck Tryz.call127 (fun w' hw=>qi_ _ _ _ _ _ _ _ 8 gx2 _ (BX2.out.gr hw) om om) ?_
 refine tk ?_
 refine nzR Y O (fun w2 hg=>I.out.gr (HG0.out.trans hg)) ?_;clear Y T I HG0 BX2 lx0 O K;intro vw1 I
 refine wp_cond_false (by rfl) ?_
 refine wp_skip ?_
 show Code.wp _ _ _ _ _
 have HB:=HPb I
 have lx0:=kc0_ I
 refine ks2_ fun K O T Y=>?_
 refine tk ?_
 refine ck Tryz.call35 (fun w' hw=>qd2 bbxn kxn fxn mxn ixn kxd fxd mxd a ao_xn c_xn ao_xd c_xd w' (lh_ (HWxn.out.gr (Gr.trans HB.out hw))) HFxn HVxn HAxn (lh_ (HWxd.out.gr (Gr.trans HB.out hw))) HFxd HVxd HQx om om om om) ?_
 refine nlS Y I fun vw2 J=>?_
 clear Y T I lx0 HB
 go_wp2
 refine kF_ O (((J.out).aL (vw2.heap.size)).er 0) fun Wx3 I=>?_;clear O K
 clear J
 generalize vw2.heap.size=gx3 at *
 have su1:wl a.num.natAbs≤9:=Nat.le_trans (sz_num _) om
 have su2:wl (a.den)≤9:=Nat.le_trans (sz_den _) om
 have sp2:0<(a).den:=(a).den_pos
 have lx3:=kc0_ I
 refine kS fun K O=>?_
 refine wp_region_plan 6 [4,5] [] (fun i=>if i=4 then 6 else 7) (fun i=>if i=4 then .cells #[.int .u64 0,.string ⟨#[]⟩,.bool false] 34 else .cells #[.int .u64 0,.string ⟨#[]⟩] 30) [(true,0),(true,2),(true,1),(true,3)] (by kernel_rfl) (by kernel_rfl) zb7_ (fun i hi=>by cases hi) (fun _ _ _ _ _ h=>h) (fun T Y=>?_)
 refine tk2_ ?_
 refine ck Tryz.call40 (fun w' hw=>qm5 a _) ?_
 refine ck Tryz.call38 (fun w' hw=>qr_ a _ om) ?_
 refine wpPlan_nil (Y.out _ _ ?_)
 intro G vw3 hg hf
 simp only [puts,Act.put,lA,lB,lC,lD,lE,↓reduceIte,Nat.reduceEqDiff]
 have J:=lh_ (I.out.fr hg hf (zs:=[(#[.int .u64 0,.string ⟨#[]⟩,.bool false],34),(#[.int .u64 0,.string ⟨#[]⟩],30)]) rfl (by decide) (by decide))
 simp only [zq1_,zq2_,zq3_,zq4_,lF,lG] at J
 clear Y T I hg hf lx3
 generalize G 4=gx4 at *
 generalize G 5=gx5 at *
 have lx4:=kc1_ J;have fx4:=kf1_ J
 have lx5:=kc2_ J;have fx5:=kf2_ J
 have r0:=Gr.refl vw3
 obtain ⟨d4_5,d5_4⟩:=J.out.ne 1 2 rfl rfl (by decide)
 go_wp2
 refine kO O ?_;clear O K
 clear r0 lx4 fx4 lx5 fx5 d4_5 d5_4
 refine fH ((((J.out).put2 1 0 rfl).put 1 2 _ rfl).put2 2 0 rfl) fun Wx4 I=>?_
 clear J
 have HZ3:Hid (mkRat (a.num) (a.den)=a):=lh_ qf5
 have su3:sz a≤9:=by have e:=HZ3.out;first|omega|(rw [← e];exact qc3 (k:=9) om om (by decide))
 have lx4:=kc1_ I
 have lx5:=kc2_ I
 refine qa2 fun K O T Y=>?_
 refine tk2_ ?_
 refine ck Tryz.call102 (fun w' hw=>qd7 (a.num) (a.den) a _ (lh_ HZ3.out) qf5 om om) ?_
 refine tk3_ ?_
 refine nlS Y I fun vw4 J=>?_
 clear Y T I lx4 lx5
 go_wp2
 refine kF_ O ((J.out).aL (vw4.heap.size)) fun Wx5 I=>?_;clear O K
 clear J
 generalize vw4.heap.size=gx6 at *
 refine wp_seq ?_
 have hd1:decide (a.den=0)=false:=decide_eq_false qf5
 have HZ4:Hid (Nat.gcd a.num.natAbs (a.den)=1):=lh_ qf5
 have su4:wl (1)≤9:=by have e:=HZ4.out;first|omega|(rw [← e];have:=qB5 a.num.natAbs (a.den);omega)|exact wl_le.2 (by decide +kernel)
 have su_0_6:wl 1≤1:=wl_le.2 (by decide +kernel)
 have su_1_6:wl 1≤1:=wl_le.2 (by decide +kernel)
 have hd2:decide (a.den=1)=true:=decide_eq_true qf5
 have lx3:=kc0_ I
 have lx4:=kc1_ I
 have lx5:=kc2_ I
 have lx6:=kc3_ I
 refine kS fun K O=>?_
 refine xg1 fun T Y=>?_
 iterate 6 refine tk ?_
 refine ck Tryz.call100 (fun w' hw=>qd9 (a.num) _) ?_
 refine ck Tryz.call111 (fun w' hw=>xf9 a.num.natAbs (a.den) (1) _ HZ4.out om om) ?_
 refine ck Tryz.call24 (fun w' hw=>nzof 1 _ (by decide)) ?_
 iterate 14 refine tk ?_
 refine ck Tryz.call146 (fun w' hw=>qa4 a true _ (decide_eq_true qf5)) ?_
 refine ck Tryz.call24 (fun w' hw=>nzof 1 _ (by decide)) ?_
 refine tk2_ ?_
 refine nlD Y I fun vw5 J=>?_
 clear Y T I lx3 lx4 lx5 lx6
 go_wp2
 refine kF_ O ((J.out).er 3) fun Wx6 I=>?_;clear O K
 clear J
 clear hd1 hd2
 refine wp_cond_false (by rfl) ?_
 refine wp_skip ?_
 show Code.wp _ _ _ _ _
 refine wp_seq ?_
 refine ks2_ fun K O T Y=>?_
 refine tk2_ ?_
 refine nz Y I O ?_;clear Y T I O K;intro vw6 I
 refine wp_cond_true (by rfl) ?_
 have lx4:=kc1_ I
 refine qa2 fun K O T Y=>?_
 refine tk2_ ?_
 refine ck Tryz.call102 (fun w' hw=>qp2 (a.num) (0) _ qf5) ?_
 refine tk3_ ?_
 refine nlS Y I fun vw7 J=>?_
 clear Y T I lx4
 go_wp2
 refine kF_ O (((J.out).aL (vw7.heap.size)).er 3) fun Wx9 I=>?_;clear O K
 clear J
 generalize vw7.heap.size=gx7 at *
 have HB:=HPb I
 refine qa2 fun K O T Y=>?_
 refine tk3_ ?_
 refine ck Tryz.call62 (fun w' hw=>worksq_any _ (lh_ (HT.out.gr (Gr.trans HB.out hw)))) ?_
 refine tk2_ ?_
 refine nz Y I O ?_;clear Y T I HB O K;intro vw8 I
 refine wp_ret ?_
 try simp only [Exit.then,Exit.inBlock]
 exact bR ⟨rfl,I.out.1⟩ xj5
theorem lowq_wk (bbxn:Bool) (vxn:Value) (kxn:Nat) (fxn:Nat→Nat) (mxn:Nat) (ixn:Int) (vxd:Value) (kxd:Nat) (fxd:Nat→Nat) (mxd:Nat) (a:Rat) (k:Int) (w:World) (HWxn:Hid (Wa w vxn kxn fxn)) (HFxn:Hid (∀ i,i<kxn→fxn i<4294967296)) (HVxn:Hid (vl fxn kxn=mxn)) (HAxn:Hid ((if bbxn then -((mxn:Nat):Int) else ((mxn:Nat):Int))=ixn)) (HWxd:Hid (Wa w vxd kxd fxd)) (HFxd:Hid (∀ i,i<kxd→fxd i<4294967296)) (HVxd:Hid (vl fxd kxd=mxd)) (HQx:Hid (mkRat ixn (mxd+1)=a)) (hkxn:kxn≤8) (hkxd:kxd≤8) (h1:-9223372036854775808≤k) (h2:k≤9223372036854775807) (hk0:k≠0) (HW:Hid (a.den=1)) (HT:Hid (Tab w)) :
  CB 55 #[.agg #[.bool bbxn,vxn,vxd],.int .i64 k] w (.bool true):=by
 obtain ⟨ao_xn,c_xn,rfl⟩:=HWxn.out.slice
 obtain ⟨ao_xd,c_xd,rfl⟩:=HWxd.out.slice
 have hm_xn:wl mxn≤8:=by rw [← HVxn.out];have:=wl_le.2 (vl_lt HFxn.out);omega
 have hm_xd:wl mxd≤8:=by rw [← HVxd.out];have:=wl_le.2 (vl_lt HFxd.out);omega
 have hi_x:wl (Int.natAbs ixn)≤8:=by rw [zsize HAxn.out];exact hm_xn
 have hs_x:sz a≤9:=by rw [← HQx.out];exact sz_great hi_x hm_xd
 have hr_x:rz a≤27:=by rw [← HQx.out];exact qc2 hi_x hm_xd (by decide)
 go_enter Tryz.func55,Tryz.ntmps55
 have I:=lh_ (hp0 w)
 refine kSl fun K O=>?_;go_wp2
 refine kF_ O (al1_ I) fun Wx0 J=>?_;clear O K
 clear I;have I:=J;clear J
 refine wp_seq ?_
 have lx0:=kc0_ I
 refine kS fun K O=>?_
 have HG0:Hid (Gr Wx0 Wx0):=lh_ (Gr.refl _)
 refine sq4_ fun T Y=>?_
 refine tk ?_
 refine qb5 (cs:=#[.bool bbxn,(.slice ao_xn kxn c_xn),(.slice ao_xd kxd c_xd)]) (E:=83) (n:=1) rfl (by rfl) (fun w' hw=>?_) (fun gx2 vv2 hg0 yx2 bx2=>?_)
 ·go_simp
 clear yx2
 replace HG0:=lh_ (HG0.out.trans hg0)
 have HGS:=lh_ hg0;clear hg0
 clear HGS
 have BX2:=lh_ bx2;clear bx2
 clear lx0;have lx0:=kg0_ I HG0
 simp only [Act.put,lA,lB,lC]
 refine ck Tryz.call127 (fun w' hw=>qi_ _ _ _ _ _ _ _ 8 gx2 _ (BX2.out.gr hw) om om) ?_
 refine tk ?_
 refine nzR Y O (fun w2 hg=>I.out.gr (HG0.out.trans hg)) ?_;clear Y T I HG0 BX2 lx0 O K;intro vw1 I
 refine wp_cond_false (by rfl) ?_
 refine wp_skip ?_
 show Code.wp _ _ _ _ _
 have HB:=HPb I
 have lx0:=kc0_ I
 refine ks2_ fun K O T Y=>?_
 refine tk ?_
 refine ck Tryz.call35 (fun w' hw=>qd2 bbxn kxn fxn mxn ixn kxd fxd mxd a ao_xn c_xn ao_xd c_xd w' (lh_ (HWxn.out.gr (Gr.trans HB.out hw))) HFxn HVxn HAxn (lh_ (HWxd.out.gr (Gr.trans HB.out hw))) HFxd HVxd HQx om om om om) ?_
 refine nlS Y I fun vw2 J=>?_
 clear Y T I lx0 HB
 go_wp2
 refine kF_ O (((J.out).aL (vw2.heap.size)).er 0) fun Wx3 I=>?_;clear O K
 clear J
 generalize vw2.heap.size=gx3 at *
 have su1:wl a.num.natAbs≤9:=Nat.le_trans (sz_num _) om
 have su2:wl (a.den)≤9:=Nat.le_trans (sz_den _) om
 have sp2:0<(a).den:=(a).den_pos
 have lx3:=kc0_ I
 refine kS fun K O=>?_
 refine wp_region_plan 6 [4,5] [] (fun i=>if i=4 then 6 else 7) (fun i=>if i=4 then .cells #[.int .u64 0,.string ⟨#[]⟩,.bool false] 34 else .cells #[.int .u64 0,.string ⟨#[]⟩] 30) [(true,0),(true,2),(true,1),(true,3)] (by kernel_rfl) (by kernel_rfl) zb7_ (fun i hi=>by cases hi) (fun _ _ _ _ _ h=>h) (fun T Y=>?_)
 refine tk2_ ?_
 refine ck Tryz.call40 (fun w' hw=>qm5 a _) ?_
 refine ck Tryz.call38 (fun w' hw=>qr_ a _ om) ?_
 refine wpPlan_nil (Y.out _ _ ?_)
 intro G vw3 hg hf
 simp only [puts,Act.put,lA,lB,lC,lD,lE,↓reduceIte,Nat.reduceEqDiff]
 have J:=lh_ (I.out.fr hg hf (zs:=[(#[.int .u64 0,.string ⟨#[]⟩,.bool false],34),(#[.int .u64 0,.string ⟨#[]⟩],30)]) rfl (by decide) (by decide))
 simp only [zq1_,zq2_,zq3_,zq4_,lF,lG] at J
 clear Y T I hg hf lx3
 generalize G 4=gx4 at *
 generalize G 5=gx5 at *
 have lx4:=kc1_ J;have fx4:=kf1_ J
 have lx5:=kc2_ J;have fx5:=kf2_ J
 have r0:=Gr.refl vw3
 obtain ⟨d4_5,d5_4⟩:=J.out.ne 1 2 rfl rfl (by decide)
 go_wp2
 refine kO O ?_;clear O K
 clear r0 lx4 fx4 lx5 fx5 d4_5 d5_4
 refine fH ((((J.out).put2 1 0 rfl).put 1 2 _ rfl).put2 2 0 rfl) fun Wx4 I=>?_
 clear J
 have HZ3:Hid (mkRat (a.num) (a.den)=a):=lh_ qf5
 have su3:sz a≤9:=by have e:=HZ3.out;first|omega|(rw [← e];exact qc3 (k:=9) om om (by decide))
 have lx4:=kc1_ I
 have lx5:=kc2_ I
 refine qa2 fun K O T Y=>?_
 refine tk2_ ?_
 refine ck Tryz.call102 (fun w' hw=>qd7 (a.num) (a.den) a _ (lh_ HZ3.out) qf5 om om) ?_
 refine tk3_ ?_
 refine nlS Y I fun vw4 J=>?_
 clear Y T I lx4 lx5
 go_wp2
 refine kF_ O ((J.out).aL (vw4.heap.size)) fun Wx5 I=>?_;clear O K
 clear J
 generalize vw4.heap.size=gx6 at *
 refine wp_seq ?_
 have hd1:decide (a.den=0)=false:=decide_eq_false qf5
 have HZ4:Hid (Nat.gcd a.num.natAbs (a.den)=1):=lh_ qf5
 have su4:wl (1)≤9:=by have e:=HZ4.out;first|omega|(rw [← e];have:=qB5 a.num.natAbs (a.den);omega)|exact wl_le.2 (by decide +kernel)
 have su_0_6:wl 1≤1:=wl_le.2 (by decide +kernel)
 have su_1_6:wl 1≤1:=wl_le.2 (by decide +kernel)
 have hd2:decide (a.den=1)=true:=decide_eq_true qf5
 have lx3:=kc0_ I
 have lx4:=kc1_ I
 have lx5:=kc2_ I
 have lx6:=kc3_ I
 refine kS fun K O=>?_
 refine xg1 fun T Y=>?_
 iterate 6 refine tk ?_
 refine ck Tryz.call100 (fun w' hw=>qd9 (a.num) _) ?_
 refine ck Tryz.call111 (fun w' hw=>xf9 a.num.natAbs (a.den) (1) _ HZ4.out om om) ?_
 refine ck Tryz.call24 (fun w' hw=>nzof 1 _ (by decide)) ?_
 iterate 14 refine tk ?_
 refine ck Tryz.call146 (fun w' hw=>qa4 a true _ (decide_eq_true qf5)) ?_
 refine ck Tryz.call24 (fun w' hw=>nzof 1 _ (by decide)) ?_
 refine tk2_ ?_
 refine nlD Y I fun vw5 J=>?_
 clear Y T I lx3 lx4 lx5 lx6
 go_wp2
 refine kF_ O ((J.out).er 3) fun Wx6 I=>?_;clear O K
 clear J
 clear hd1 hd2
 refine wp_cond_false (by rfl) ?_
 refine wp_skip ?_
 show Code.wp _ _ _ _ _
 refine wp_seq ?_
 have hd3:(k == (0))=false:=by have:¬ (k=0):=qf5;simpa using this
 refine ks2_ fun K O T Y=>?_
 refine tk2_ ?_
 refine nz Y I O ?_;clear Y T I O K;intro vw6 I
 clear hd3
 refine wp_cond_false (by rfl) ?_
 refine wp_skip ?_
 show Code.wp _ _ _ _ _
 have su5:wl k.natAbs≤2:=xl_ om om
 refine ks2_ fun K O T Y=>?_
 refine tk ?_
 refine ck Tryz.call23 (fun w' hw=>qt6 k _ om om) ?_
 refine nlS Y I fun vw7 J=>?_
 clear Y T I
 go_wp2
 refine kF_ O ((J.out).aL (vw7.heap.size)) fun Wx11 I=>?_;clear O K
 clear J
 generalize vw7.heap.size=gx7 at *
 obtain ⟨u6,HZ6⟩:=ex_ ((if false then -((Int.natAbs k:Nat):Int) else ((Int.natAbs k:Nat):Int)))
 have su6:wl u6.natAbs≤2:=by rw [← HZ6.out];split <;> simp <;> omega
 obtain ⟨u7,HZ7⟩:=ex_ ((a.num)*(u6))
 have su7:wl u7.natAbs≤11:=by rw [← HZ7.out];have:=qh7 (a.num) u6;omega
 obtain ⟨u8,HZ8⟩:=ex_ ((a.den)*k.natAbs)
 have su8:wl u8≤11:=by rw [← HZ8.out];have:=qi5 (a.den) k.natAbs;omega
 have HZ9:Hid (mkRat u7 u8=a):=lh_ (by simp only [← HZ8.out,← HZ7.out,← HZ6.out];exact qI5 a k hk0)
 have su9:sz a≤11:=by have e:=HZ9.out;first|omega|(rw [← e];exact qc3 (k:=11) om om (by decide))
 have lx4:=kc1_ I
 have lx5:=kc2_ I
 have lx7:=kc3_ I
 refine kS fun K O=>?_
 refine wp_region_plan 14 [13] [12] (fun _=>13) (fun _=>.cells #[.int .u64 0,.string ⟨#[]⟩,.bool false,.int .u64 0,.string ⟨#[]⟩] 36) [(true,0),(true,1),(true,5),(true,6),(true,2),(true,3),(true,4),(true,7),(true,8),(true,9),(true,10),(true,11),(true,12)] (by kernel_rfl) (by kernel_rfl) qu_ qr6 (fun _ _ _ _ _ h=>h) (fun T Y=>?_)
 iterate 4 refine tk ?_
 refine ck Tryz.call100 (fun w' hw=>qd9 k _) ?_
 refine ck Tryz.call37 (fun w' hw=>qa7 false k.natAbs u6 _ HZ6.out) ?_
 refine ck Tryz.call39 (fun w' hw=>qv0 (a.num) u6 u7 _ HZ7.out om om) ?_
 refine ck Tryz.call100 (fun w' hw=>qd9 k _) ?_
 refine ck Tryz.call110 (fun w' hw=>xp1 (a.den) k.natAbs u8 _ HZ8.out om om) ?_
 refine ck Tryz.call102 (fun w' hw=>qd7 u7 u8 a _ (lh_ HZ9.out) (by simp only [← HZ8.out,← HZ7.out,← HZ6.out];exact Nat.mul_pos a.den_pos (Int.natAbs_pos.2 hk0)) om om) ?_
 refine tk3_ ?_
 refine wpPlan_nil (Y.out _ _ ?_)
 intro G vw8 hg hf
 simp only [puts,Act.put,lA,lB,lC,lD,lE,↓reduceIte,Nat.reduceEqDiff]
 have J:=lh_ (I.out.fr hg hf (zs:=[(#[.int .u64 0,.string ⟨#[]⟩,.bool false,.int .u64 0,.string ⟨#[]⟩],36)]) rfl (by decide) (by decide))
 simp only [zq1_,zq2_,zq3_,zq4_,lF,lG] at J
 clear Y T I hg hf lx4 lx5 lx7
 generalize G 13=gx8 at *
 have lx8:=kc4_ J;have fx8:=kf4_ J
 have r0:=Gr.refl vw8
 go_wp2
 refine kO O ?_;clear O K
 clear r0 lx8 fx8
 refine fH (((((((J.out).put2 4 0 rfl).put2 4 2 rfl).put 4 4 _ rfl).er 3).er 2).er 1) fun Wx12 I=>?_
 clear J
 have HB:=HPb I
 have lx3:=kc0_ I
 have lx8:=kc1_ I
 refine qr5 fun K O T Y=>?_
 iterate 8 refine tk ?_
 refine ck Tryz.call62 (fun w' hw=>worksq_any _ (lh_ (HT.out.gr (Gr.trans HB.out hw)))) ?_
 refine tk2_ ?_
 refine nzR Y O (fun w2 hg=>((I.out.gr hg).er 1).er 0) ?_;clear Y T I lx3 lx8 HB O K;intro Wx13 I
 refine wp_ret ?_
 try simp only [Exit.then,Exit.inBlock]
 exact bR ⟨rfl,I.out.1⟩ xj5
theorem lowq_nz (bbxn:Bool) (vxn:Value) (kxn:Nat) (fxn:Nat→Nat) (mxn:Nat) (ixn:Int) (vxd:Value) (kxd:Nat) (fxd:Nat→Nat) (mxd:Nat) (a:Rat)  (w:World) (HWxn:Hid (Wa w vxn kxn fxn)) (HFxn:Hid (∀ i,i<kxn→fxn i<4294967296)) (HVxn:Hid (vl fxn kxn=mxn)) (HAxn:Hid ((if bbxn then -((mxn:Nat):Int) else ((mxn:Nat):Int))=ixn)) (HWxd:Hid (Wa w vxd kxd fxd)) (HFxd:Hid (∀ i,i<kxd→fxd i<4294967296)) (HVxd:Hid (vl fxd kxd=mxd)) (HQx:Hid (mkRat ixn (mxd+1)=a)) (hkxn:kxn≤8) (hkxd:kxd≤8) (HW:Hid (¬ (a.den=1))) (HT:Hid (Tab w)) :
  CB 55 #[.agg #[.bool bbxn,vxn,vxd],.int .i64 0] w (.bool true):=by
 obtain ⟨ao_xn,c_xn,rfl⟩:=HWxn.out.slice
 obtain ⟨ao_xd,c_xd,rfl⟩:=HWxd.out.slice
 have hm_xn:wl mxn≤8:=by rw [← HVxn.out];have:=wl_le.2 (vl_lt HFxn.out);omega
 have hm_xd:wl mxd≤8:=by rw [← HVxd.out];have:=wl_le.2 (vl_lt HFxd.out);omega
 have hi_x:wl (Int.natAbs ixn)≤8:=by rw [zsize HAxn.out];exact hm_xn
 have hs_x:sz a≤9:=by rw [← HQx.out];exact sz_great hi_x hm_xd
 have hr_x:rz a≤27:=by rw [← HQx.out];exact qc2 hi_x hm_xd (by decide)
 go_enter Tryz.func55,Tryz.ntmps55
 have I:=lh_ (hp0 w)
 refine kSl fun K O=>?_;go_wp2
 refine kF_ O (al1_ I) fun Wx0 J=>?_;clear O K
 clear I;have I:=J;clear J
 refine wp_seq ?_
 have lx0:=kc0_ I
 refine kS fun K O=>?_
 have HG0:Hid (Gr Wx0 Wx0):=lh_ (Gr.refl _)
 refine sq4_ fun T Y=>?_
 refine tk ?_
 refine qb5 (cs:=#[.bool bbxn,(.slice ao_xn kxn c_xn),(.slice ao_xd kxd c_xd)]) (E:=83) (n:=1) rfl (by rfl) (fun w' hw=>?_) (fun gx2 vv2 hg0 yx2 bx2=>?_)
 ·go_simp
 clear yx2
 replace HG0:=lh_ (HG0.out.trans hg0)
 have HGS:=lh_ hg0;clear hg0
 clear HGS
 have BX2:=lh_ bx2;clear bx2
 clear lx0;have lx0:=kg0_ I HG0
 simp only [Act.put,lA,lB,lC]
 refine ck Tryz.call127 (fun w' hw=>qi_ _ _ _ _ _ _ _ 8 gx2 _ (BX2.out.gr hw) om om) ?_
 refine tk ?_
 refine nzR Y O (fun w2 hg=>I.out.gr (HG0.out.trans hg)) ?_;clear Y T I HG0 BX2 lx0 O K;intro vw1 I
 refine wp_cond_false (by rfl) ?_
 refine wp_skip ?_
 show Code.wp _ _ _ _ _
 have HB:=HPb I
 have lx0:=kc0_ I
 refine ks2_ fun K O T Y=>?_
 refine tk ?_
 refine ck Tryz.call35 (fun w' hw=>qd2 bbxn kxn fxn mxn ixn kxd fxd mxd a ao_xn c_xn ao_xd c_xd w' (lh_ (HWxn.out.gr (Gr.trans HB.out hw))) HFxn HVxn HAxn (lh_ (HWxd.out.gr (Gr.trans HB.out hw))) HFxd HVxd HQx om om om om) ?_
 refine nlS Y I fun vw2 J=>?_
 clear Y T I lx0 HB
 go_wp2
 refine kF_ O (((J.out).aL (vw2.heap.size)).er 0) fun Wx3 I=>?_;clear O K
 clear J
 generalize vw2.heap.size=gx3 at *
 have su1:wl a.num.natAbs≤9:=Nat.le_trans (sz_num _) om
 have su2:wl (a.den)≤9:=Nat.le_trans (sz_den _) om
 have sp2:0<(a).den:=(a).den_pos
 have lx3:=kc0_ I
 refine kS fun K O=>?_
 refine wp_region_plan 6 [4,5] [] (fun i=>if i=4 then 6 else 7) (fun i=>if i=4 then .cells #[.int .u64 0,.string ⟨#[]⟩,.bool false] 34 else .cells #[.int .u64 0,.string ⟨#[]⟩] 30) [(true,0),(true,2),(true,1),(true,3)] (by kernel_rfl) (by kernel_rfl) zb7_ (fun i hi=>by cases hi) (fun _ _ _ _ _ h=>h) (fun T Y=>?_)
 refine tk2_ ?_
 refine ck Tryz.call40 (fun w' hw=>qm5 a _) ?_
 refine ck Tryz.call38 (fun w' hw=>qr_ a _ om) ?_
 refine wpPlan_nil (Y.out _ _ ?_)
 intro G vw3 hg hf
 simp only [puts,Act.put,lA,lB,lC,lD,lE,↓reduceIte,Nat.reduceEqDiff]
 have J:=lh_ (I.out.fr hg hf (zs:=[(#[.int .u64 0,.string ⟨#[]⟩,.bool false],34),(#[.int .u64 0,.string ⟨#[]⟩],30)]) rfl (by decide) (by decide))
 simp only [zq1_,zq2_,zq3_,zq4_,lF,lG] at J
 clear Y T I hg hf lx3
 generalize G 4=gx4 at *
 generalize G 5=gx5 at *
 have lx4:=kc1_ J;have fx4:=kf1_ J
 have lx5:=kc2_ J;have fx5:=kf2_ J
 have r0:=Gr.refl vw3
 obtain ⟨d4_5,d5_4⟩:=J.out.ne 1 2 rfl rfl (by decide)
 go_wp2
 refine kO O ?_;clear O K
 clear r0 lx4 fx4 lx5 fx5 d4_5 d5_4
 refine fH ((((J.out).put2 1 0 rfl).put 1 2 _ rfl).put2 2 0 rfl) fun Wx4 I=>?_
 clear J
 have HZ3:Hid (mkRat (a.num) (a.den)=a):=lh_ qf5
 have su3:sz a≤9:=by have e:=HZ3.out;first|omega|(rw [← e];exact qc3 (k:=9) om om (by decide))
 have lx4:=kc1_ I
 have lx5:=kc2_ I
 refine qa2 fun K O T Y=>?_
 refine tk2_ ?_
 refine ck Tryz.call102 (fun w' hw=>qd7 (a.num) (a.den) a _ (lh_ HZ3.out) qf5 om om) ?_
 refine tk3_ ?_
 refine nlS Y I fun vw4 J=>?_
 clear Y T I lx4 lx5
 go_wp2
 refine kF_ O ((J.out).aL (vw4.heap.size)) fun Wx5 I=>?_;clear O K
 clear J
 generalize vw4.heap.size=gx6 at *
 refine wp_seq ?_
 have hd1:decide (a.den=0)=false:=decide_eq_false qf5
 have HZ4:Hid (Nat.gcd a.num.natAbs (a.den)=1):=lh_ qf5
 have su4:wl (1)≤9:=by have e:=HZ4.out;first|omega|(rw [← e];have:=qB5 a.num.natAbs (a.den);omega)|exact wl_le.2 (by decide +kernel)
 have su_0_6:wl 1≤1:=wl_le.2 (by decide +kernel)
 have su_1_6:wl 1≤1:=wl_le.2 (by decide +kernel)
 have hd2:decide (a.den=1)=false:=decide_eq_false qf5
 have lx3:=kc0_ I
 have lx4:=kc1_ I
 have lx5:=kc2_ I
 have lx6:=kc3_ I
 refine kS fun K O=>?_
 refine xg1 fun T Y=>?_
 iterate 6 refine tk ?_
 refine ck Tryz.call100 (fun w' hw=>qd9 (a.num) _) ?_
 refine ck Tryz.call111 (fun w' hw=>xf9 a.num.natAbs (a.den) (1) _ HZ4.out om om) ?_
 refine ck Tryz.call24 (fun w' hw=>nzof 1 _ (by decide)) ?_
 iterate 14 refine tk ?_
 refine ck Tryz.call146 (fun w' hw=>qa4 a false _ (decide_eq_false qf5)) ?_
 refine ck Tryz.call24 (fun w' hw=>nzof 1 _ (by decide)) ?_
 refine tk2_ ?_
 refine nlD Y I fun vw5 J=>?_
 clear Y T I lx3 lx4 lx5 lx6
 go_wp2
 refine kF_ O ((J.out).er 3) fun Wx6 I=>?_;clear O K
 clear J
 clear hd1 hd2
 refine wp_cond_false (by rfl) ?_
 refine wp_skip ?_
 show Code.wp _ _ _ _ _
 refine wp_seq ?_
 refine ks2_ fun K O T Y=>?_
 refine tk2_ ?_
 refine nz Y I O ?_;clear Y T I O K;intro vw6 I
 refine wp_cond_true (by rfl) ?_
 have lx4:=kc1_ I
 refine qa2 fun K O T Y=>?_
 refine tk2_ ?_
 refine ck Tryz.call102 (fun w' hw=>qp2 (a.num) (0) _ qf5) ?_
 refine tk3_ ?_
 refine nlS Y I fun vw7 J=>?_
 clear Y T I lx4
 go_wp2
 refine kF_ O (((J.out).aL (vw7.heap.size)).er 3) fun Wx9 I=>?_;clear O K
 clear J
 generalize vw7.heap.size=gx7 at *
 have HB:=HPb I
 refine qa2 fun K O T Y=>?_
 refine tk3_ ?_
 refine ck Tryz.call62 (fun w' hw=>worksq_any _ (lh_ (HT.out.gr (Gr.trans HB.out hw)))) ?_
 refine tk2_ ?_
 refine nz Y I O ?_;clear Y T I HB O K;intro vw8 I
 refine wp_ret ?_
 try simp only [Exit.then,Exit.inBlock]
 exact bR ⟨rfl,I.out.1⟩ xj5
theorem lowq_nk (bbxn:Bool) (vxn:Value) (kxn:Nat) (fxn:Nat→Nat) (mxn:Nat) (ixn:Int) (vxd:Value) (kxd:Nat) (fxd:Nat→Nat) (mxd:Nat) (a:Rat) (k:Int) (w:World) (HWxn:Hid (Wa w vxn kxn fxn)) (HFxn:Hid (∀ i,i<kxn→fxn i<4294967296)) (HVxn:Hid (vl fxn kxn=mxn)) (HAxn:Hid ((if bbxn then -((mxn:Nat):Int) else ((mxn:Nat):Int))=ixn)) (HWxd:Hid (Wa w vxd kxd fxd)) (HFxd:Hid (∀ i,i<kxd→fxd i<4294967296)) (HVxd:Hid (vl fxd kxd=mxd)) (HQx:Hid (mkRat ixn (mxd+1)=a)) (hkxn:kxn≤8) (hkxd:kxd≤8) (h1:-9223372036854775808≤k) (h2:k≤9223372036854775807) (hk0:k≠0) (HW:Hid (¬ (a.den=1))) (HT:Hid (Tab w)) :
  CB 55 #[.agg #[.bool bbxn,vxn,vxd],.int .i64 k] w (.bool true):=by
 obtain ⟨ao_xn,c_xn,rfl⟩:=HWxn.out.slice
 obtain ⟨ao_xd,c_xd,rfl⟩:=HWxd.out.slice
 have hm_xn:wl mxn≤8:=by rw [← HVxn.out];have:=wl_le.2 (vl_lt HFxn.out);omega
 have hm_xd:wl mxd≤8:=by rw [← HVxd.out];have:=wl_le.2 (vl_lt HFxd.out);omega
 have hi_x:wl (Int.natAbs ixn)≤8:=by rw [zsize HAxn.out];exact hm_xn
 have hs_x:sz a≤9:=by rw [← HQx.out];exact sz_great hi_x hm_xd
 have hr_x:rz a≤27:=by rw [← HQx.out];exact qc2 hi_x hm_xd (by decide)
 go_enter Tryz.func55,Tryz.ntmps55
 have I:=lh_ (hp0 w)
 refine kSl fun K O=>?_;go_wp2
 refine kF_ O (al1_ I) fun Wx0 J=>?_;clear O K
 clear I;have I:=J;clear J
 refine wp_seq ?_
 have lx0:=kc0_ I
 refine kS fun K O=>?_
 have HG0:Hid (Gr Wx0 Wx0):=lh_ (Gr.refl _)
 refine sq4_ fun T Y=>?_
 refine tk ?_
 refine qb5 (cs:=#[.bool bbxn,(.slice ao_xn kxn c_xn),(.slice ao_xd kxd c_xd)]) (E:=83) (n:=1) rfl (by rfl) (fun w' hw=>?_) (fun gx2 vv2 hg0 yx2 bx2=>?_)
 ·go_simp
 clear yx2
 replace HG0:=lh_ (HG0.out.trans hg0)
 have HGS:=lh_ hg0;clear hg0
 clear HGS
 have BX2:=lh_ bx2;clear bx2
 clear lx0;have lx0:=kg0_ I HG0
 simp only [Act.put,lA,lB,lC]
 refine ck Tryz.call127 (fun w' hw=>qi_ _ _ _ _ _ _ _ 8 gx2 _ (BX2.out.gr hw) om om) ?_
 refine tk ?_
 refine nzR Y O (fun w2 hg=>I.out.gr (HG0.out.trans hg)) ?_;clear Y T I HG0 BX2 lx0 O K;intro vw1 I
 refine wp_cond_false (by rfl) ?_
 refine wp_skip ?_
 show Code.wp _ _ _ _ _
 have HB:=HPb I
 have lx0:=kc0_ I
 refine ks2_ fun K O T Y=>?_
 refine tk ?_
 refine ck Tryz.call35 (fun w' hw=>qd2 bbxn kxn fxn mxn ixn kxd fxd mxd a ao_xn c_xn ao_xd c_xd w' (lh_ (HWxn.out.gr (Gr.trans HB.out hw))) HFxn HVxn HAxn (lh_ (HWxd.out.gr (Gr.trans HB.out hw))) HFxd HVxd HQx om om om om) ?_
 refine nlS Y I fun vw2 J=>?_
 clear Y T I lx0 HB
 go_wp2
 refine kF_ O (((J.out).aL (vw2.heap.size)).er 0) fun Wx3 I=>?_;clear O K
 clear J
 generalize vw2.heap.size=gx3 at *
 have su1:wl a.num.natAbs≤9:=Nat.le_trans (sz_num _) om
 have su2:wl (a.den)≤9:=Nat.le_trans (sz_den _) om
 have sp2:0<(a).den:=(a).den_pos
 have lx3:=kc0_ I
 refine kS fun K O=>?_
 refine wp_region_plan 6 [4,5] [] (fun i=>if i=4 then 6 else 7) (fun i=>if i=4 then .cells #[.int .u64 0,.string ⟨#[]⟩,.bool false] 34 else .cells #[.int .u64 0,.string ⟨#[]⟩] 30) [(true,0),(true,2),(true,1),(true,3)] (by kernel_rfl) (by kernel_rfl) zb7_ (fun i hi=>by cases hi) (fun _ _ _ _ _ h=>h) (fun T Y=>?_)
 refine tk2_ ?_
 refine ck Tryz.call40 (fun w' hw=>qm5 a _) ?_
 refine ck Tryz.call38 (fun w' hw=>qr_ a _ om) ?_
 refine wpPlan_nil (Y.out _ _ ?_)
 intro G vw3 hg hf
 simp only [puts,Act.put,lA,lB,lC,lD,lE,↓reduceIte,Nat.reduceEqDiff]
 have J:=lh_ (I.out.fr hg hf (zs:=[(#[.int .u64 0,.string ⟨#[]⟩,.bool false],34),(#[.int .u64 0,.string ⟨#[]⟩],30)]) rfl (by decide) (by decide))
 simp only [zq1_,zq2_,zq3_,zq4_,lF,lG] at J
 clear Y T I hg hf lx3
 generalize G 4=gx4 at *
 generalize G 5=gx5 at *
 have lx4:=kc1_ J;have fx4:=kf1_ J
 have lx5:=kc2_ J;have fx5:=kf2_ J
 have r0:=Gr.refl vw3
 obtain ⟨d4_5,d5_4⟩:=J.out.ne 1 2 rfl rfl (by decide)
 go_wp2
 refine kO O ?_;clear O K
 clear r0 lx4 fx4 lx5 fx5 d4_5 d5_4
 refine fH ((((J.out).put2 1 0 rfl).put 1 2 _ rfl).put2 2 0 rfl) fun Wx4 I=>?_
 clear J
 have HZ3:Hid (mkRat (a.num) (a.den)=a):=lh_ qf5
 have su3:sz a≤9:=by have e:=HZ3.out;first|omega|(rw [← e];exact qc3 (k:=9) om om (by decide))
 have lx4:=kc1_ I
 have lx5:=kc2_ I
 refine qa2 fun K O T Y=>?_
 refine tk2_ ?_
 refine ck Tryz.call102 (fun w' hw=>qd7 (a.num) (a.den) a _ (lh_ HZ3.out) qf5 om om) ?_
 refine tk3_ ?_
 refine nlS Y I fun vw4 J=>?_
 clear Y T I lx4 lx5
 go_wp2
 refine kF_ O ((J.out).aL (vw4.heap.size)) fun Wx5 I=>?_;clear O K
 clear J
 generalize vw4.heap.size=gx6 at *
 refine wp_seq ?_
 have hd1:decide (a.den=0)=false:=decide_eq_false qf5
 have HZ4:Hid (Nat.gcd a.num.natAbs (a.den)=1):=lh_ qf5
 have su4:wl (1)≤9:=by have e:=HZ4.out;first|omega|(rw [← e];have:=qB5 a.num.natAbs (a.den);omega)|exact wl_le.2 (by decide +kernel)
 have su_0_6:wl 1≤1:=wl_le.2 (by decide +kernel)
 have su_1_6:wl 1≤1:=wl_le.2 (by decide +kernel)
 have hd2:decide (a.den=1)=false:=decide_eq_false qf5
 have lx3:=kc0_ I
 have lx4:=kc1_ I
 have lx5:=kc2_ I
 have lx6:=kc3_ I
 refine kS fun K O=>?_
 refine xg1 fun T Y=>?_
 iterate 6 refine tk ?_
 refine ck Tryz.call100 (fun w' hw=>qd9 (a.num) _) ?_
 refine ck Tryz.call111 (fun w' hw=>xf9 a.num.natAbs (a.den) (1) _ HZ4.out om om) ?_
 refine ck Tryz.call24 (fun w' hw=>nzof 1 _ (by decide)) ?_
 iterate 14 refine tk ?_
 refine ck Tryz.call146 (fun w' hw=>qa4 a false _ (decide_eq_false qf5)) ?_
 refine ck Tryz.call24 (fun w' hw=>nzof 1 _ (by decide)) ?_
 refine tk2_ ?_
 refine nlD Y I fun vw5 J=>?_
 clear Y T I lx3 lx4 lx5 lx6
 go_wp2
 refine kF_ O ((J.out).er 3) fun Wx6 I=>?_;clear O K
 clear J
 clear hd1 hd2
 refine wp_cond_false (by rfl) ?_
 refine wp_skip ?_
 show Code.wp _ _ _ _ _
 refine wp_seq ?_
 have hd3:(k == (0))=false:=by have:¬ (k=0):=qf5;simpa using this
 refine ks2_ fun K O T Y=>?_
 refine tk2_ ?_
 refine nz Y I O ?_;clear Y T I O K;intro vw6 I
 clear hd3
 refine wp_cond_false (by rfl) ?_
 refine wp_skip ?_
 show Code.wp _ _ _ _ _
 have su5:wl k.natAbs≤2:=xl_ om om
 refine ks2_ fun K O T Y=>?_
 refine tk ?_
 refine ck Tryz.call23 (fun w' hw=>qt6 k _ om om) ?_
 refine nlS Y I fun vw7 J=>?_
 clear Y T I
 go_wp2
 refine kF_ O ((J.out).aL (vw7.heap.size)) fun Wx11 I=>?_;clear O K
 clear J
 generalize vw7.heap.size=gx7 at *
 obtain ⟨u6,HZ6⟩:=ex_ ((if false then -((Int.natAbs k:Nat):Int) else ((Int.natAbs k:Nat):Int)))
 have su6:wl u6.natAbs≤2:=by rw [← HZ6.out];split <;> simp <;> omega
 obtain ⟨u7,HZ7⟩:=ex_ ((a.num)*(u6))
 have su7:wl u7.natAbs≤11:=by rw [← HZ7.out];have:=qh7 (a.num) u6;omega
 obtain ⟨u8,HZ8⟩:=ex_ ((a.den)*k.natAbs)
 have su8:wl u8≤11:=by rw [← HZ8.out];have:=qi5 (a.den) k.natAbs;omega
 have HZ9:Hid (mkRat u7 u8=a):=lh_ (by simp only [← HZ8.out,← HZ7.out,← HZ6.out];exact qI5 a k hk0)
 have su9:sz a≤11:=by have e:=HZ9.out;first|omega|(rw [← e];exact qc3 (k:=11) om om (by decide))
 have lx4:=kc1_ I
 have lx5:=kc2_ I
 have lx7:=kc3_ I
 refine kS fun K O=>?_
 refine wp_region_plan 14 [13] [12] (fun _=>13) (fun _=>.cells #[.int .u64 0,.string ⟨#[]⟩,.bool false,.int .u64 0,.string ⟨#[]⟩] 36) [(true,0),(true,1),(true,5),(true,6),(true,2),(true,3),(true,4),(true,7),(true,8),(true,9),(true,10),(true,11),(true,12)] (by kernel_rfl) (by kernel_rfl) qu_ qr6 (fun _ _ _ _ _ h=>h) (fun T Y=>?_)
 iterate 4 refine tk ?_
 refine ck Tryz.call100 (fun w' hw=>qd9 k _) ?_
 refine ck Tryz.call37 (fun w' hw=>qa7 false k.natAbs u6 _ HZ6.out) ?_
 refine ck Tryz.call39 (fun w' hw=>qv0 (a.num) u6 u7 _ HZ7.out om om) ?_
 refine ck Tryz.call100 (fun w' hw=>qd9 k _) ?_
 refine ck Tryz.call110 (fun w' hw=>xp1 (a.den) k.natAbs u8 _ HZ8.out om om) ?_
 refine ck Tryz.call102 (fun w' hw=>qd7 u7 u8 a _ (lh_ HZ9.out) (by simp only [← HZ8.out,← HZ7.out,← HZ6.out];exact Nat.mul_pos a.den_pos (Int.natAbs_pos.2 hk0)) om om) ?_
 refine tk3_ ?_
 refine wpPlan_nil (Y.out _ _ ?_)
 intro G vw8 hg hf
 simp only [puts,Act.put,lA,lB,lC,lD,lE,↓reduceIte,Nat.reduceEqDiff]
 have J:=lh_ (I.out.fr hg hf (zs:=[(#[.int .u64 0,.string ⟨#[]⟩,.bool false,.int .u64 0,.string ⟨#[]⟩],36)]) rfl (by decide) (by decide))
 simp only [zq1_,zq2_,zq3_,zq4_,lF,lG] at J
 clear Y T I hg hf lx4 lx5 lx7
 generalize G 13=gx8 at *
 have lx8:=kc4_ J;have fx8:=kf4_ J
 have r0:=Gr.refl vw8
 go_wp2
 refine kO O ?_;clear O K
 clear r0 lx8 fx8
 refine fH (((((((J.out).put2 4 0 rfl).put2 4 2 rfl).put 4 4 _ rfl).er 3).er 2).er 1) fun Wx12 I=>?_
 clear J
 have HB:=HPb I
 have lx3:=kc0_ I
 have lx8:=kc1_ I
 refine qr5 fun K O T Y=>?_
 iterate 8 refine tk ?_
 refine ck Tryz.call62 (fun w' hw=>worksq_any _ (lh_ (HT.out.gr (Gr.trans HB.out hw)))) ?_
 refine tk2_ ?_
 refine nzR Y O (fun w2 hg=>((I.out.gr hg).er 1).er 0) ?_;clear Y T I lx3 lx8 HB O K;intro Wx13 I
 refine wp_ret ?_
 try simp only [Exit.then,Exit.inBlock]
 exact bR ⟨rfl,I.out.1⟩ xj5
end Go.Proofs.YtobojnodohjiaaaGreatDoor
