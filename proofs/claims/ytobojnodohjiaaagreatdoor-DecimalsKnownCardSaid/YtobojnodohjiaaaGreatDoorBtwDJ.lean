
/- DecimalsBetween: whole multiples; long arguments; all ways. -/
import Derived.Test.YtobojnodohjiaaaGreatDoorBtwD
import Derived.Test.YtobojnodohjiaaaGreatDoorSgnP
set_option maxRecDepth 100000
set_option maxHeartbeats 16000000
set_option linter.unusedVariables false
set_option linter.unusedSimpArgs false
namespace Go.Proofs.YtobojnodohjiaaaGreatDoor
open Go.RowKit
attribute [local go_sem ↓] Go.wp_at_zero Go.wp_at_succ
attribute [local go_sem ↓] eq_nat eq_nat_zero eq_int qh7 qd0
attribute [local go_sem] Instr.field asAgg
theorem xO5 (bbxn:Bool) (vxn:Value) (kxn:Nat) (fxn:Nat→Nat) (mxn:Nat) (ixn:Int) (vxd:Value) (kxd:Nat) (fxd:Nat→Nat) (mxd:Nat) (a:Rat) (n:Int) (k:Nat) (st s2 kl z0:Rat) (w:World) (HWxn:Hid (Wa w vxn kxn fxn)) (HFxn:Hid (∀ i,i<kxn→fxn i<4294967296)) (HVxn:Hid (vl fxn kxn=mxn)) (HAxn:Hid ((if bbxn then -((mxn:Nat):Int) else ((mxn:Nat):Int))=ixn)) (HWxd:Hid (Wa w vxd kxd fxd)) (HFxd:Hid (∀ i,i<kxd→fxd i<4294967296)) (HVxd:Hid (vl fxd kxd=mxd)) (HQx:Hid (mkRat ixn (mxd+1)=a)) (hkxn:kxn≤6) (hkxd:kxd≤6) (hm1:0≤n) (hm2:n≤255) (HMk:Hid (Int.tmod n 101=(k:Int))) (hk:k≤100) (HST:Hid (((1 / 10:Rat)) ^ k=st)) (HS0:Hid (st≠0)) (HSP:Hid (0<st)) (HS2:Hid ((2:Rat)*st=s2)) (HS20:Hid (s2≠0)) (HA:Hid (∀ w:Int,rdd w a k=a)) (HKL:Hid (a / st=kl)) (HKD:Hid (kl.den=1)) (HZE:Hid ((0:Rat)=z0)) (hz0:sz z0≤1) (HNS:Hid (¬ z0=st)) (HT:Hid (Tab w)) :
  CB 72 #[.agg #[.bool bbxn,vxn,vxd],.int .u8 n] w (.bool true):=by
 obtain ⟨ao_xn,c_xn,rfl⟩:=HWxn.out.slice
 obtain ⟨ao_xd,c_xd,rfl⟩:=HWxd.out.slice
 have hm_xn:wl mxn≤6:=by rw [← HVxn.out];have:=qa2.2 (qe3 HFxn.out);omega
 have hm_xd:wl mxd≤6:=by rw [← HVxd.out];have:=qa2.2 (qe3 HFxd.out);omega
 have hi_x:wl (Int.natAbs ixn)≤6:=by rw [qo9 HAxn.out];exact hm_xn
 have hs_x:sz a≤7:=by rw [← HQx.out];exact qe6 hi_x hm_xd
 have hr_x:rz a≤21:=by rw [← HQx.out];exact qf_ hi_x hm_xd (by decide)
 have hwn:IntKind.i64.wrap n=n:=by rw [IntKind.wrap_i64];omega
 go_enter Tryz.func72,Tryz.ntmps72
 have I:=lh_ (hp0 w)
 refine kSl fun K O=>?_;go_wp2
 refine kF_ O (al1_ I) fun Wx0 J=>?_;clear O K
 clear I;have I:=J;clear J
 refine wp_seq ?_
 have hd1:¬ (6<((kxn:Int))):=by first|exact ok|exact HA.out _|exact HKL.out|exact HKD.out|exact Rat.sub_self|exact HNS.out
 have hd2:¬ (6<((kxd:Int))):=by first|exact ok|exact HA.out _|exact HKL.out|exact HKD.out|exact Rat.sub_self|exact HNS.out
 have lx0:=kc0_ I
 refine qh4 fun K O T Y=>?_
 iterate 11 refine tk ?_
 refine nz Y I O ?_;clear Y T I lx0 O K;intro vw1 I
 clear hd1 hd2
 refine wp_cond_false (by rfl) ?_
 refine wp_skip ?_
 show Code.wp _ _ _ _ _
 have hrmk_2:Int.tmod n 101=(k:Int):=HMk.out
 refine ks4_ fun K O T Y=>?_
 iterate 4 refine tk ?_
 refine nz Y I O ?_;clear Y T I O K;intro vw2 I
 clear hrmk_2
 have HB:=HPb I
 have HZ1:Hid (((1 / 10:Rat)) ^ k=st):=lh_ (HST.out)
 have su1:sz st≤12:=by have e:=HZ1.out;first|omega|(rw [← e];exact xf0 om)
 have lx0:=kc0_ I
 refine ks4_ fun K O T Y=>?_
 refine tk ?_
 refine ck Tryz.call35 (fun w' hw=>qf9 bbxn kxn fxn mxn ixn kxd fxd mxd a ao_xn c_xn ao_xd c_xd w' (lh_ (HWxn.out.gr (Gr.trans HB.out hw))) HFxn HVxn HAxn (lh_ (HWxd.out.gr (Gr.trans HB.out hw))) HFxd HVxd HQx om om om om) ?_
 refine tk ?_
 refine ck Tryz.call183 (fun w' hw=>qz0 k st _ (lh_ HZ1.out) om) ?_
 refine nlS Y I fun vw3 J=>?_
 clear Y T I lx0 HB
 go_wp2
 refine kF_ O ((((J.out).aL (vw3.heap.size)).aL (vw3.heap.size+1)).er 0) fun Wx4 I=>?_;clear O K
 clear J
 generalize vw3.heap.size+1=gx3 at *
 generalize vw3.heap.size=gx2 at *
 have HZ2:Hid (rdd 1 a k=a):=lh_ zb9_
 have su2:sz a≤20:=by have e:=HZ2.out;first|omega|(rw [← e];exact qb4 om om)
 have HZ3:Hid (rdd 2 a k=a):=lh_ zb9_
 have su3:sz a≤20:=by have e:=HZ3.out;first|omega|(rw [← e];exact qb4 om om)
 have lx2:=kc0_ I
 refine ks7_ fun K O T Y=>?_
 refine tk2_ ?_
 refine ck Tryz.call169 (fun w' hw=>qh3 a a a k _ (lh_ HZ2.out) (lh_ HZ3.out) om om) ?_
 iterate 4 refine tk ?_
 refine nlS Y I fun vw4 J=>?_
 clear Y T I lx2
 go_wp2
 refine kF_ O (((J.out).aL (vw4.heap.size)).aL (vw4.heap.size+1)) fun Wx5 I=>?_;clear O K
 clear J
 generalize vw4.heap.size+1=gx5 at *
 generalize vw4.heap.size=gx4 at *
 have HZ4:Hid (rdd (3) a k=a):=lh_ zb9_
 have su4:sz a≤20:=by have e:=HZ4.out;first|omega|(rw [← e];exact qb4 om om)
 have lx2:=kc0_ I
 refine ks6_ fun K O T Y=>?_
 refine tk2_ ?_
 refine ck Tryz.call168 (fun w' hw=>qd9 (3) a k a _ HZ4.out om om om om) ?_
 refine tk3_ ?_
 refine nlS Y I fun vw5 J=>?_
 clear Y T I lx2
 go_wp2
 refine kF_ O ((J.out).aL (vw5.heap.size)) fun Wx6 I=>?_;clear O K
 clear J
 generalize vw5.heap.size=gx6 at *
 have HZ5:Hid (a / st=kl):=lh_ (HKL.out)
 have su5:sz kl≤30:=by have e:=HZ5.out;first|omega|(rw [← e];have:=qi0 a st;omega)
 have lx3:=kc1_ I
 have lx4:=kc2_ I
 refine ks6_ fun K O T Y=>?_
 refine tk2_ ?_
 refine ck Tryz.call79 (fun w' hw=>qd_ a st kl _ HZ5.out (by exact HS0.out) om om) ?_
 refine tk3_ ?_
 refine nlS Y I fun vw6 J=>?_
 clear Y T I lx3 lx4
 go_wp2
 refine kF_ O ((J.out).aL (vw6.heap.size)) fun Wx7 I=>?_;clear O K
 clear J
 generalize vw6.heap.size=gx7 at *
 have HZ6:Hid (a / st=kl):=lh_ zb9_
 have su6:sz kl≤32:=by have e:=HZ6.out;first|omega|(rw [← e];have:=qi0 a st;omega)
 have lx3:=kc1_ I
 have lx5:=kc3_ I
 refine ks6_ fun K O T Y=>?_
 refine tk2_ ?_
 refine ck Tryz.call79 (fun w' hw=>qd_ a st kl _ HZ6.out (by exact HS0.out) om om) ?_
 refine tk3_ ?_
 refine nlS Y I fun vw7 J=>?_
 clear Y T I lx3 lx5
 go_wp2
 refine kF_ O ((J.out).aL (vw7.heap.size)) fun Wx8 I=>?_;clear O K
 clear J
 generalize vw7.heap.size=gx8 at *
 have HZ7:Hid (a / st=kl):=lh_ zb9_
 have su7:sz kl≤19:=by have e:=HZ7.out;first|omega|(rw [← e];have:=qi0 a st;omega)
 have lx2:=kc0_ I
 have lx3:=kc1_ I
 refine ks6_ fun K O T Y=>?_
 refine tk2_ ?_
 refine ck Tryz.call79 (fun w' hw=>qd_ a st kl _ HZ7.out (by exact HS0.out) om om) ?_
 refine tk3_ ?_
 refine nlS Y I fun vw8 J=>?_
 clear Y T I lx2 lx3
 go_wp2
 refine kF_ O ((J.out).aL (vw8.heap.size)) fun Wx9 I=>?_;clear O K
 clear J
 generalize vw8.heap.size=gx9 at *
 refine wp_seq ?_
 have lx2:=kc0_ I
 have lx3:=kc1_ I
 have lx4:=kc2_ I
 have lx5:=kc3_ I
 have lx6:=kc4_ I
 have lx7:=kc5_ I
 have lx8:=kc6_ I
 have lx9:=kc7_ I
 refine kS fun K O=>?_
 refine pd1_ fun T Y=>?_
 iterate 12 refine tk ?_
 refine ck Tryz.call146 (fun w' hw=>qa3 kl true _ (decide_eq_true zb9_)) ?_
 iterate 4 refine tk ?_
 refine ck Tryz.call146 (fun w' hw=>qa3 kl true _ (decide_eq_true zb9_)) ?_
 iterate 5 refine tk ?_
 refine ck Tryz.call140 (fun w' hw=>qc1 a a (0) _ xN3 om om) ?_
 iterate 5 refine tk ?_
 refine ck Tryz.call140 (fun w' hw=>qc1 a a (0) _ xN3 om om) ?_
 iterate 7 refine tk ?_
 refine ck Tryz.call146 (fun w' hw=>qa3 kl true _ (decide_eq_true zb9_)) ?_
 iterate 7 refine tk ?_
 iterate 5 refine sk ?_
 iterate 7 refine tk ?_
 iterate 3 refine sk ?_
 refine tk ?_
 refine nlD Y I fun vw9 J=>?_
 clear Y T I lx2 lx3 lx4 lx5 lx6 lx7 lx8 lx9
 go_wp2
 refine kF_ O ((((((J.out).er 7).er 6).er 5).er 3).er 2) fun Wx10 I=>?_;clear O K
 clear J
 refine wp_cond_false (by rfl) ?_
 refine wp_skip ?_
 show Code.wp _ _ _ _ _
 have HZ8:Hid (((2:Int):Rat)=(2:Rat)):=lh_ (by decide +kernel)
 have su8:sz ((2:Rat))≤2:=qc9 (qa2.2 (by decide +kernel)) (qa2.2 (by decide +kernel))
 have HZ9:Hid (a - a=(0:Rat)):=lh_ zb9_
 have su9:sz ((0:Rat))≤28:=by have e:=HZ9.out;first|omega|(rw [← e];have:=ql8 a a;omega)
 have HZ10:Hid (qabs (0:Rat)=(0:Rat)):=lh_ zb9_
 have su10:sz ((0:Rat))≤28:=by have e:=HZ10.out;first|omega|(rw [← e];rw [qx8];omega)
 have HZ11:Hid ((2:Rat)*(0:Rat)=z0):=lh_ (by rw [Rat.mul_zero];exact HZE.out)
 have su11:sz z0≤30:=by have e:=HZ11.out;first|omega|(rw [← e];have:=qe2 (2:Rat) (0:Rat);omega)
 have lx2:=kc0_ I
 have lx6:=kc2_ I
 refine kS fun K O=>?_
 refine qa1 7 [6] [] (fun _=>19) (fun _=>.cells #[.int .u64 0,.string ⟨#[]⟩,.bool false,.int .u64 0,.string ⟨#[]⟩] 36) [(true,1),(true,2),(true,0),(true,3),(true,4),(true,5)] (by kernel_rfl) (by kernel_rfl) zb0_ (fun i hi=>by cases hi) (fun _ _ _ _ _ h=>h) (fun T Y=>?_)
 refine tk2_ ?_
 refine ck Tryz.call147 (fun w' hw=>qb9 (2) (2:Rat) _ HZ8.out om om) ?_
 refine ck Tryz.call132 (fun w' hw=>qf0 a a (0:Rat) _ HZ9.out om om) ?_
 refine ck Tryz.call137 (fun w' hw=>qp5 (0:Rat) (0:Rat) _ HZ10.out) ?_
 refine ck Tryz.call134 (fun w' hw=>qc5 (2:Rat) (0:Rat) z0 _ HZ11.out om om) ?_
 refine qa0 (Y.out _ _ ?_)
 intro G vw10 hg hf
 simp only [puts,Act.put,lA,lB,lC,lD,lE,↓reduceIte,Nat.reduceEqDiff]
 have J:=lh_ (I.out.fr hg hf (zs:=[(#[.int .u64 0,.string ⟨#[]⟩,.bool false,.int .u64 0,.string ⟨#[]⟩],36)]) rfl (by decide) (by decide))
 simp only [zq1_,zq2_,zq3_,zq4_,lF,lG] at J
 clear Y T I hg hf lx2 lx6
 generalize G 6=gx10 at *
 have lx10:=kc3_ J;have fx10:=kf3_ J
 have r0:=Gr.refl vw10
 go_wp2
 refine kO O ?_;clear O K
 clear r0 lx10 fx10
 refine fH ((((J.out).put2 3 0 rfl).put2 3 2 rfl).put 3 4 _ rfl) fun Wx12 I=>?_
 clear J
 have HZ12:Hid (((2:Int):Rat)=(2:Rat)):=lh_ (by decide +kernel)
 have su12:sz ((2:Rat))≤2:=qc9 (qa2.2 (by decide +kernel)) (qa2.2 (by decide +kernel))
 have HZ13:Hid ((2:Rat)*(st)=s2):=lh_ (HS2.out)
 have su13:sz s2≤14:=by have e:=HZ13.out;first|omega|(rw [← e];have:=qe2 (2:Rat) st;omega)
 obtain ⟨u14,HZ14⟩:=ex_ (a / s2)
 have su14:sz u14≤34:=by rw [← HZ14.out];have:=qi0 a s2;omega
 have lx3:=kc1_ I
 have lx6:=kc2_ I
 refine kS fun K O=>?_
 refine qa1 9 [8] [7] (fun _=>20) (fun _=>.cells #[.int .u64 0,.string ⟨#[]⟩,.bool false,.int .u64 0,.string ⟨#[]⟩] 36) [(true,0),(true,2),(true,1),(true,3),(true,4),(true,5),(true,6),(true,7)] (by kernel_rfl) (by kernel_rfl) zb0_ zb3_ (fun _ _ _ _ _ h=>h) (fun T Y=>?_)
 refine tk2_ ?_
 refine ck Tryz.call147 (fun w' hw=>qb9 (2) (2:Rat) _ HZ12.out om om) ?_
 refine ck Tryz.call134 (fun w' hw=>qc5 (2:Rat) st s2 _ HZ13.out om om) ?_
 refine ck Tryz.call79 (fun w' hw=>qd_ a s2 u14 _ HZ14.out (by exact HS20.out) om om) ?_
 refine tk3_ ?_
 refine qa0 (Y.out _ _ ?_)
 intro G vw11 hg hf
 simp only [puts,Act.put,lA,lB,lC,lD,lE,↓reduceIte,Nat.reduceEqDiff]
 have J:=lh_ (I.out.fr hg hf (zs:=[(#[.int .u64 0,.string ⟨#[]⟩,.bool false,.int .u64 0,.string ⟨#[]⟩],36)]) rfl (by decide) (by decide))
 simp only [zq1_,zq2_,zq3_,zq4_,lF,lG] at J
 clear Y T I hg hf lx3 lx6
 generalize G 8=gx11 at *
 have lx11:=kc4_ J;have fx11:=kf4_ J
 have r0:=Gr.refl vw11
 go_wp2
 refine kO O ?_;clear O K
 clear r0 lx11 fx11
 refine fH (((((J.out).put2 4 0 rfl).put2 4 2 rfl).put 4 4 _ rfl).er 2) fun Wx13 I=>?_
 clear J
 refine wp_seq ?_
 have hd3:decide (z0=st)=false:=decide_eq_false xD9
 have lx3:=kc1_ I
 have lx10:=kc2_ I
 have lx11:=kc3_ I
 refine qS_ fun K O T Y=>?_
 refine tk2_ ?_
 refine ck Tryz.call140 (fun w' hw=>qc1 z0 st (-1) _ (by have e9:(z0) - st<(0:Rat):=(by rw [← HZE.out,Rat.sub_eq_add_neg,Rat.zero_add];have e9:=HSP.out;rw [Rat.neg_lt_iff,Rat.neg_zero];exact e9);exact ql2 e9) om om) ?_
 iterate 6 refine tk ?_
 iterate 3 refine sk ?_
 refine tk2_ ?_
 refine nzR Y O (fun w2 hg=>(((I.out.gr hg).er 3).er 2).er 1) ?_;clear Y T I lx3 lx10 lx11 O K;intro Wx14 I
 clear hd3
 refine wp_cond_false (by rfl) ?_
 refine wp_skip ?_
 show Code.wp _ _ _ _ _
 refine wp_seq ?_
 refine kSl fun K O=>?_;go_wp2
 refine kF_ O (I.out) fun Wx16 J=>?_;clear O K
 clear I;have I:=J;clear J
 refine wp_block ?_
 go_loopg [22] 3 (fun k iv wr=>∃ j:Nat,iv=.int .i64 (j:Int)∧j+k=4∧1≤j∧Hid (HP w wr [Sum.inl (gx2,36,#[.int .u64 (lo a.num.natAbs),.string (bg a.num.natAbs),.bool (a.num<0),.int .u64 (lo (a.den - 1)),.string (bg (a.den - 1))])]))
 case atStart=>exact ⟨1,rfl,rfl,Nat.le_refl _,I⟩
 case round =>
  rename_i J_ K_ h1_ h0_
  clear I
  obtain ⟨j,rfl,hjk,hj1,I⟩:=hrel
  rcases gk with _|k9
  ·refine wp_seq ?_
   have hle9:¬ (j:Int)≤3:=by omega
   refine ks2_ fun K O T Y=>?_
   refine tk2_ ?_
   refine nz Y I O ?_;clear Y T I O K;intro vw13 I
   clear hle9
   refine wp_cond_false (by rfl) ?_
   refine wp_exit ?_
   show Code.wp _ _ _ _ _
   have HB:=HPb I
   refine ks2_ fun K O T Y=>?_
   refine ck Tryz.call64 (fun w' hw=>worksd_any _ (lh_ (HT.out.gr (Gr.trans HB.out hw)))) ?_
   refine tk ?_
   refine nzR Y O (fun w2 hg=>(I.out.gr hg).er 0) ?_;clear Y T I HB O K;intro Wx23 I
   refine wp_ret ?_
   try simp only [Exit.then,Exit.inBlock]
   exact bR ⟨rfl,I.out.1⟩ qL5
  skip
  refine wp_seq ?_
  have hle9:(j:Int)≤3:=by omega
  refine ks2_ fun K O T Y=>?_
  refine tk2_ ?_
  refine nz Y I O ?_;clear Y T I O K;intro vw13 I
  clear hle9
  refine wp_cond_true (by rfl) ?_
  refine wp_skip ?_
  show Code.wp _ _ _ _ _
  refine wp_seq ?_
  refine wp_block ?_
  have HZ15:Hid (rdd ((j:Int)) a k=a):=lh_ xD9
  have su15:sz a≤20:=by have e:=HZ15.out;first|omega|(rw [← e];exact qb4 om om)
  have lx2:=kc0_ I
  refine ks7_ fun K O T Y=>?_
  refine tk3_ ?_
  refine ck Tryz.call168 (fun w' hw=>qd9 ((j:Int)) a k a _ HZ15.out om om om om) ?_
  refine tk3_ ?_
  refine nlS Y I fun vw14 J=>?_
  clear Y T I lx2
  go_wp2
  refine kF_ O ((J.out).aL (vw14.heap.size)) fun Wx19 I=>?_;clear O K
  clear J
  generalize vw14.heap.size=gx12 at *
  have HZ16:Hid (rdd ((j:Int)) a k=a):=lh_ xD9
  have su16:sz a≤33:=by have e:=HZ16.out;first|omega|(rw [← e];exact qb4 om om)
  have lx12:=kc1_ I
  refine ks7_ fun K O T Y=>?_
  refine tk3_ ?_
  refine ck Tryz.call168 (fun w' hw=>qd9 ((j:Int)) a k a _ HZ16.out om om om om) ?_
  refine tk3_ ?_
  refine nlS Y I fun vw15 J=>?_
  clear Y T I lx12
  go_wp2
  refine kF_ O ((J.out).aL (vw15.heap.size)) fun Wx20 I=>?_;clear O K
  clear J
  generalize vw15.heap.size=gx13 at *
  have lx12:=kc1_ I
  have lx13:=kc2_ I
  refine ks7_ fun K O T Y=>?_
  iterate 7 refine tk ?_
  refine nz Y I O ?_;clear Y T I lx12 lx13 O K;intro vw16 I
  refine wp_cond_false (by rfl) ?_
  refine wp_skip ?_
  show Code.wp _ _ _ _ _
  have hwi:IntKind.i64.wrap ((j:Int)+1)=(j:Int)+1:=by rw [IntKind.wrap_i64];omega
  refine kL fun K O=>?_
  refine sq3_ fun T Y=>?_
  refine tk3_ ?_
  refine nlS Y I fun vw17 J=>?_
  clear Y T I
  go_wp2
  refine O.out _ _ ?_;clear O K
  try simp only [Exit.then,Exit.inBlock]
  have I:=lh_ (J.out);clear J
  clear hwi
  refine h0_ _ _ ?_
  go_roundg k9
  case measure=>omega
  case rel=>exact ⟨j+1,rfl,by omega,by omega,lh_ (((I.out).er 2).er 1)⟩
theorem qX2 (bbxn:Bool) (vxn:Value) (kxn:Nat) (fxn:Nat→Nat) (mxn:Nat) (ixn:Int) (vxd:Value) (kxd:Nat) (fxd:Nat→Nat) (mxd:Nat) (a:Rat) (n:Int) (w:World) (HWxn:Hid (Wa w vxn kxn fxn)) (HFxn:Hid (∀ i,i<kxn→fxn i<4294967296)) (HVxn:Hid (vl fxn kxn=mxn)) (HAxn:Hid ((if bbxn then -((mxn:Nat):Int) else ((mxn:Nat):Int))=ixn)) (HWxd:Hid (Wa w vxd kxd fxd)) (HFxd:Hid (∀ i,i<kxd→fxd i<4294967296)) (HVxd:Hid (vl fxd kxd=mxd)) (HQx:Hid (mkRat ixn (mxd+1)=a))  (hkxn:6<kxn) (HT:Hid (Tab w)) :
  CB 72 #[.agg #[.bool bbxn,vxn,vxd],.int .u8 n] w (.bool true):=by
 obtain ⟨ao_xn,c_xn,rfl⟩:=HWxn.out.slice
 obtain ⟨ao_xd,c_xd,rfl⟩:=HWxd.out.slice
 go_enter Tryz.func72,Tryz.ntmps72
 have I:=lh_ (hp0 w)
 refine kSl fun K O=>?_;go_wp2
 refine kF_ O (al1_ I) fun Wx0 J=>?_;clear O K
 clear I;have I:=J;clear J
 refine wp_seq ?_
 have hd1:6<((kxn:Int)):=ok
 have lx0:=kc0_ I
 refine qh4 fun K O T Y=>?_
 iterate 6 refine tk ?_
 iterate 4 refine sk ?_
 refine tk ?_
 refine nz Y I O ?_;clear Y T I lx0 O K;intro vw1 I
 clear hd1
 refine wp_cond_true (by rfl) ?_
 have HB:=HPb I
 refine ks2_ fun K O T Y=>?_
 refine ck Tryz.call64 (fun w' hw=>worksd_any _ (lh_ (HT.out.gr (Gr.trans HB.out hw)))) ?_
 refine tk ?_
 refine nz Y I O ?_;clear Y T I HB O K;intro vw2 I
 refine wp_ret ?_
 try simp only [Exit.then,Exit.inBlock]
 exact bR ⟨rfl,I.out.1⟩ qL5
theorem qX3 (bbxn:Bool) (vxn:Value) (kxn:Nat) (fxn:Nat→Nat) (mxn:Nat) (ixn:Int) (vxd:Value) (kxd:Nat) (fxd:Nat→Nat) (mxd:Nat) (a:Rat) (n:Int) (w:World) (HWxn:Hid (Wa w vxn kxn fxn)) (HFxn:Hid (∀ i,i<kxn→fxn i<4294967296)) (HVxn:Hid (vl fxn kxn=mxn)) (HAxn:Hid ((if bbxn then -((mxn:Nat):Int) else ((mxn:Nat):Int))=ixn)) (HWxd:Hid (Wa w vxd kxd fxd)) (HFxd:Hid (∀ i,i<kxd→fxd i<4294967296)) (HVxd:Hid (vl fxd kxd=mxd)) (HQx:Hid (mkRat ixn (mxd+1)=a)) (hkxn:kxn≤6) (hkxd:6<kxd) (HT:Hid (Tab w)) :
  CB 72 #[.agg #[.bool bbxn,vxn,vxd],.int .u8 n] w (.bool true):=by
 obtain ⟨ao_xn,c_xn,rfl⟩:=HWxn.out.slice
 obtain ⟨ao_xd,c_xd,rfl⟩:=HWxd.out.slice
 go_enter Tryz.func72,Tryz.ntmps72
 have I:=lh_ (hp0 w)
 refine kSl fun K O=>?_;go_wp2
 refine kF_ O (al1_ I) fun Wx0 J=>?_;clear O K
 clear I;have I:=J;clear J
 refine wp_seq ?_
 have hd1:¬ (6<((kxn:Int))):=ok
 have hd2:6<((kxd:Int)):=ok
 have lx0:=kc0_ I
 refine qh4 fun K O T Y=>?_
 iterate 11 refine tk ?_
 refine nz Y I O ?_;clear Y T I lx0 O K;intro vw1 I
 clear hd1 hd2
 refine wp_cond_true (by rfl) ?_
 have HB:=HPb I
 refine ks2_ fun K O T Y=>?_
 refine ck Tryz.call64 (fun w' hw=>worksd_any _ (lh_ (HT.out.gr (Gr.trans HB.out hw)))) ?_
 refine tk ?_
 refine nz Y I O ?_;clear Y T I HB O K;intro vw2 I
 refine wp_ret ?_
 try simp only [Exit.then,Exit.inBlock]
 exact bR ⟨rfl,I.out.1⟩ qL5
theorem btwd_law (bbxn:Bool) (vxn:Value) (kxn:Nat) (fxn:Nat→Nat) (vxd:Value) (kxd:Nat) (fxd:Nat→Nat) (n:Int) (w:World) (HWxn:Hid (Wa w vxn kxn fxn)) (HFxn:Hid (∀ i,i<kxn→fxn i<4294967296)) (HWxd:Hid (Wa w vxd kxd fxd)) (HFxd:Hid (∀ i,i<kxd→fxd i<4294967296)) (hm1:0≤n) (hm2:n≤255) (HT:Hid (Tab w)) :
  CB 72 #[.agg #[.bool bbxn,vxn,vxd],.int .u8 n] w (.bool true):=by
 obtain ⟨ixn,HAxn⟩:=ex_ ((if bbxn then -((vl fxn kxn:Nat):Int) else ((vl fxn kxn:Nat):Int)))
 obtain ⟨a,HQx⟩:=ex_ (mkRat ixn (vl fxd kxd+1))
 by_cases hkxn:kxn≤6
 ·skip
  by_cases hkxd:kxd≤6
  ·skip
   have hs:sz a≤7:=by
    rw [← HQx.out]
    have hm1:wl (vl fxn kxn)≤6:=by have:=qa2.2 (qe3 HFxn.out);omega
    exact qe6 (by rw [qo9 HAxn.out];exact hm1) (by have:=qa2.2 (qe3 HFxd.out);omega)
   obtain ⟨k,hk,hk2⟩:=qv0 hm1
   by_cases hd:(a*(((10 ^ k:Nat):Int):Rat)).den=1
   ·exact xO5 bbxn vxn kxn fxn _ ixn vxd kxd fxd _ a n k _ _ _ _ w HWxn HFxn (lh_ rfl) HAxn HWxd HFxd (lh_ rfl) HQx hkxn hkxd hm1 hm2 (lh_ hk) hk2 (lh_ rfl) (lh_ (qK2 k)) (lh_ (qu_ k)) (lh_ rfl) (lh_ (qP8 k)) (lh_ (fun w=>xd_ hd w)) (lh_ rfl) (lh_ (by rw [qp2];exact hd)) (lh_ rfl) (qc9 (qa2.2 (by decide +kernel)) (qa2.2 (by decide +kernel))) (lh_ (fun e=>qK2 k e.symm)) HT
   obtain ⟨p1,p2,p3⟩:=xn_ hd
   refine xO4 bbxn vxn kxn fxn _ ixn vxd kxd fxd _ a n k _ _ _ _ _ _ _ w HWxn HFxn (lh_ rfl) HAxn HWxd HFxd (lh_ rfl) HQx hkxn hkxd hm1 hm2 (lh_ hk) hk2 (lh_ rfl) (lh_ (qK2 k)) (lh_ (qu_ k)) (lh_ rfl) (lh_ (qP8 k)) (lh_ rfl) (lh_ rfl) (lh_ (fun w=>xz1 w w a k)) (qb4 om (Nat.le_trans hs (by decide))) (qb4 om (Nat.le_trans hs (by decide))) (lh_ p1) (lh_ p2) (lh_ (fun e=>by rw [e] at p1;exact absurd p1 (by grind))) (lh_ p3) (lh_ rfl) (lh_ rfl) (lh_ (by rw [qp2];exact xd8 1 a k)) (lh_ (by rw [qp2];exact xd8 2 a k)) (lh_ rfl) (lh_ (by rw [qp2];exact hd)) (lh_ (fun e=>by rw [← e] at p1;exact absurd p1 (by grind))) (lh_ ?_) HT
   rcases xJ0 3 a k with hn|hn
   ·left
    refine ⟨hn,?_⟩
    rcases xb9 hn hd with hl|⟨hl,ht⟩
    ·exact .inl (by rw [xd4 p1];exact hl)
    exact .inr ⟨by rw [xd4 p1];exact hl,by rw [qy_];exact ht⟩
   right
   refine ⟨hn,?_⟩
   rcases xx8 hn hd with hl|⟨hl,ht⟩
   ·exact .inl (by rw [qe0 p2];exact hl)
   exact .inr ⟨by rw [qe0 p2];exact hl,by rw [qy_];exact ht⟩
  exact qX3 bbxn vxn kxn fxn _ ixn vxd kxd fxd _ a n w HWxn HFxn (lh_ rfl) HAxn HWxd HFxd (lh_ rfl) HQx  hkxn om HT
 exact qX2 bbxn vxn kxn fxn _ ixn vxd kxd fxd _ a n w HWxn HFxn (lh_ rfl) HAxn HWxd HFxd (lh_ rfl) HQx   om HT
end Go.Proofs.YtobojnodohjiaaaGreatDoor
