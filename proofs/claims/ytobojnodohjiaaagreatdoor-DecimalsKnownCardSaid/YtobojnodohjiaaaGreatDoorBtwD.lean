
/- DecimalsBetween: the law's walk. -/
import Derived.Test.YtobojnodohjiaaaGreatDoorOwnR
import Derived.Test.YtobojnodohjiaaaGreatDoorPlanQ
set_option maxRecDepth 100000
set_option maxHeartbeats 16000000
set_option linter.unusedVariables false
set_option linter.unusedSimpArgs false
namespace Go.Proofs.YtobojnodohjiaaaGreatDoor
open Go.RowKit
attribute [local go_sem ↓] Go.wp_at_zero Go.wp_at_succ
attribute [local go_sem ↓] eq_nat eq_nat_zero eq_int qh7 qd0
attribute [local go_sem] Instr.field asAgg
theorem xO4 (bbxn:Bool) (vxn:Value) (kxn:Nat) (fxn:Nat→Nat) (mxn:Nat) (ixn:Int) (vxd:Value) (kxd:Nat) (fxd:Nat→Nat) (mxd:Nat) (a:Rat) (n:Int) (k:Nat) (st s2 yl yh kl km aw:Rat) (w:World) (HWxn:Hid (Wa w vxn kxn fxn)) (HFxn:Hid (∀ i,i<kxn→fxn i<4294967296)) (HVxn:Hid (vl fxn kxn=mxn)) (HAxn:Hid ((if bbxn then -((mxn:Nat):Int) else ((mxn:Nat):Int))=ixn)) (HWxd:Hid (Wa w vxd kxd fxd)) (HFxd:Hid (∀ i,i<kxd→fxd i<4294967296)) (HVxd:Hid (vl fxd kxd=mxd)) (HQx:Hid (mkRat ixn (mxd+1)=a)) (hkxn:kxn≤6) (hkxd:kxd≤6) (hm1:0≤n) (hm2:n≤255) (HMk:Hid (Int.tmod n 101=(k:Int))) (hk:k≤100) (HST:Hid (((1 / 10:Rat)) ^ k=st)) (HS0:Hid (st≠0)) (HSP:Hid (0<st)) (HS2:Hid ((2:Rat)*st=s2)) (HS20:Hid (s2≠0)) (HYL:Hid (rdd 1 a k=yl)) (HYH:Hid (rdd 2 a k=yh)) (HRR:Hid (∀ w:Int,rdd w (rdd w a k) k=rdd w a k)) (hsl:sz yl≤20) (hsh:sz yh≤20) (HL:Hid (yl<a)) (HH:Hid (a<yh)) (HNE:Hid (¬ yl=yh)) (HSUB:Hid (yh - yl=st)) (HKL:Hid (yl / st=kl)) (HKM:Hid (yh / st=km)) (HKD:Hid (kl.den=1)) (HMD:Hid (km.den=1)) (HAW:Hid (a / st=aw)) (HAD:Hid (¬ aw.den=1)) (HNEH:Hid (¬ yh=yl)) (HNR:Hid ((rdd 3 a k=yl∧((2:Rat)*qabs (yl - a)<st∨((2:Rat)*qabs (yl - a)=st∧(yl / s2).den=1)))∨(rdd 3 a k=yh∧((2:Rat)*qabs (yh - a)<st∨((2:Rat)*qabs (yh - a)=st∧(yh / s2).den=1))))) (HT:Hid (Tab w)) :
  CB 72 #[.agg #[.bool bbxn,vxn,vxd],.int .u8 n] w (.bool true):=by
 obtain ⟨ao_xn,c_xn,rfl⟩:=HWxn.out.slice
 obtain ⟨ao_xd,c_xd,rfl⟩:=HWxd.out.slice
 have hm_xn:wl mxn≤6:=by rw [← HVxn.out];have:=qa2.2 (qe3 HFxn.out);omega
 have hm_xd:wl mxd≤6:=by rw [← HVxd.out];have:=qa2.2 (qe3 HFxd.out);omega
 have hi_x:wl (Int.natAbs ixn)≤6:=by rw [qo9 HAxn.out];exact hm_xn
 have hs_x:sz a≤7:=by rw [← HQx.out];exact qe6 hi_x hm_xd
 have hr_x:rz a≤21:=by rw [← HQx.out];exact qf_ hi_x hm_xd (by decide)
 have hwn:IntKind.i64.wrap n=n:=by rw [IntKind.wrap_i64];omega
 go_enter Tryz.func72,Tryz.ntmps72
 have I:=lh_ (hp0 w)
 refine kSl fun K O=>?_;go_wp2
 refine kF_ O (al1_ I) fun Wx0 J=>?_;clear O K
 clear I;have I:=J;clear J
 refine wp_seq ?_
 have hd1:¬ (6<((kxn:Int))):=by first|exact ok|exact HYL.out|exact HYH.out|exact HN.out|exact HNE.out|exact HNEH.out|exact HSUB.out|exact HKD.out|exact HMD.out|exact HAD.out|exact Rat.sub_self|exact qe0 HH.out
 have hd2:¬ (6<((kxd:Int))):=by first|exact ok|exact HYL.out|exact HYH.out|exact HN.out|exact HNE.out|exact HNEH.out|exact HSUB.out|exact HKD.out|exact HMD.out|exact HAD.out|exact Rat.sub_self|exact qe0 HH.out
 have lx0:=kc0_ I
 refine qh4 fun K O T Y=>?_
 iterate 11 refine tk ?_
 refine nz Y I O ?_;clear Y T I lx0 O K;intro vw1 I
 clear hd1 hd2
 refine wp_cond_false (by rfl) ?_
 refine wp_skip ?_
 show Code.wp _ _ _ _ _
 have hrmk_2:Int.tmod n 101=(k:Int):=HMk.out
 refine ks4_ fun K O T Y=>?_
 iterate 4 refine tk ?_
 refine nz Y I O ?_;clear Y T I O K;intro vw2 I
 clear hrmk_2
 have HB:=HPb I
 have HZ1:Hid (((1 / 10:Rat)) ^ k=st):=lh_ (HST.out)
 have su1:sz st≤12:=by have e:=HZ1.out;first|omega|(rw [← e];exact xf0 om)
 have lx0:=kc0_ I
 refine ks4_ fun K O T Y=>?_
 refine tk ?_
 refine ck Tryz.call35 (fun w' hw=>qf9 bbxn kxn fxn mxn ixn kxd fxd mxd a ao_xn c_xn ao_xd c_xd w' (lh_ (HWxn.out.gr (Gr.trans HB.out hw))) HFxn HVxn HAxn (lh_ (HWxd.out.gr (Gr.trans HB.out hw))) HFxd HVxd HQx om om om om) ?_
 refine tk ?_
 refine ck Tryz.call183 (fun w' hw=>qz0 k st _ (lh_ HZ1.out) om) ?_
 refine nlS Y I fun vw3 J=>?_
 clear Y T I lx0 HB
 go_wp2
 refine kF_ O ((((J.out).aL (vw3.heap.size)).aL (vw3.heap.size+1)).er 0) fun Wx4 I=>?_;clear O K
 clear J
 generalize vw3.heap.size+1=gx3 at *
 generalize vw3.heap.size=gx2 at *
 have HZ2:Hid (rdd 1 a k=yl):=lh_ zb2_
 have su2:sz yl≤20:=by have e:=HZ2.out;first|omega|(rw [← e];exact qb4 om om)
 have HZ3:Hid (rdd 2 a k=yh):=lh_ zb2_
 have su3:sz yh≤20:=by have e:=HZ3.out;first|omega|(rw [← e];exact qb4 om om)
 have lx2:=kc0_ I
 refine ks7_ fun K O T Y=>?_
 refine tk2_ ?_
 refine ck Tryz.call169 (fun w' hw=>qh3 a yl yh k _ (lh_ HZ2.out) (lh_ HZ3.out) om om) ?_
 iterate 4 refine tk ?_
 refine nlS Y I fun vw4 J=>?_
 clear Y T I lx2
 go_wp2
 refine kF_ O (((J.out).aL (vw4.heap.size)).aL (vw4.heap.size+1)) fun Wx5 I=>?_;clear O K
 clear J
 generalize vw4.heap.size+1=gx5 at *
 generalize vw4.heap.size=gx4 at *
 rcases HNR.out with ⟨hn,hq⟩|⟨hn,hq⟩
 ·have HN:=lh_ hn
  have HQ:=lh_ hq
  clear hn hq
  have HZ4:Hid (rdd (3) a k=yl):=lh_ (HN.out)
  have su4:sz yl≤20:=by have e:=HZ4.out;first|omega|(rw [← e];exact qb4 om om)
  have lx2:=kc0_ I
  refine ks6_ fun K O T Y=>?_
  refine tk2_ ?_
  refine ck Tryz.call168 (fun w' hw=>qd9 (3) a k yl _ HZ4.out om om om om) ?_
  refine tk3_ ?_
  refine nlS Y I fun vw5 J=>?_
  clear Y T I lx2
  go_wp2
  refine kF_ O ((J.out).aL (vw5.heap.size)) fun Wx6 I=>?_;clear O K
  clear J
  generalize vw5.heap.size=gx6 at *
  have HZ5:Hid (yl / st=kl):=lh_ (HKL.out)
  have su5:sz kl≤40:=by have e:=HZ5.out;first|omega|(rw [← e];have:=qi0 yl st;omega)
  have lx3:=kc1_ I
  have lx4:=kc2_ I
  refine ks6_ fun K O T Y=>?_
  refine tk2_ ?_
  refine ck Tryz.call79 (fun w' hw=>qd_ yl st kl _ HZ5.out (by exact HS0.out) om om) ?_
  refine tk3_ ?_
  refine nlS Y I fun vw6 J=>?_
  clear Y T I lx3 lx4
  go_wp2
  refine kF_ O ((J.out).aL (vw6.heap.size)) fun Wx7 I=>?_;clear O K
  clear J
  generalize vw6.heap.size=gx7 at *
  have HZ6:Hid (yh / st=km):=lh_ (HKM.out)
  have su6:sz km≤40:=by have e:=HZ6.out;first|omega|(rw [← e];have:=qi0 yh st;omega)
  have lx3:=kc1_ I
  have lx5:=kc3_ I
  refine ks6_ fun K O T Y=>?_
  refine tk2_ ?_
  refine ck Tryz.call79 (fun w' hw=>qd_ yh st km _ HZ6.out (by exact HS0.out) om om) ?_
  refine tk3_ ?_
  refine nlS Y I fun vw7 J=>?_
  clear Y T I lx3 lx5
  go_wp2
  refine kF_ O ((J.out).aL (vw7.heap.size)) fun Wx8 I=>?_;clear O K
  clear J
  generalize vw7.heap.size=gx8 at *
  have HZ7:Hid (a / st=aw):=lh_ (HAW.out)
  have su7:sz aw≤40:=by have e:=HZ7.out;first|omega|(rw [← e];have:=qi0 a st;omega)
  have lx2:=kc0_ I
  have lx3:=kc1_ I
  refine ks6_ fun K O T Y=>?_
  refine tk2_ ?_
  refine ck Tryz.call79 (fun w' hw=>qd_ a st aw _ HZ7.out (by exact HS0.out) om om) ?_
  refine tk3_ ?_
  refine nlS Y I fun vw8 J=>?_
  clear Y T I lx2 lx3
  go_wp2
  refine kF_ O ((J.out).aL (vw8.heap.size)) fun Wx9 I=>?_;clear O K
  clear J
  generalize vw8.heap.size=gx9 at *
  refine wp_seq ?_
  have hd3:decide (yl=yh)=false:=decide_eq_false zb2_
  have hd4:decide (yl=yh)=false:=decide_eq_false zb2_
  have HZ8:Hid (yh - yl=st):=lh_ zb2_
  have su8:sz st≤41:=by have e:=HZ8.out;first|omega|(rw [← e];have:=ql8 yh yl;omega)
  have lx2:=kc0_ I
  have lx3:=kc1_ I
  have lx4:=kc2_ I
  have lx5:=kc3_ I
  have lx6:=kc4_ I
  have lx7:=kc5_ I
  have lx8:=kc6_ I
  have lx9:=kc7_ I
  refine kS fun K O=>?_
  refine pd1_ fun T Y=>?_
  iterate 12 refine tk ?_
  refine ck Tryz.call146 (fun w' hw=>qa3 kl true _ (decide_eq_true zb2_)) ?_
  iterate 4 refine tk ?_
  refine ck Tryz.call146 (fun w' hw=>qa3 km true _ (decide_eq_true zb2_)) ?_
  iterate 5 refine tk ?_
  refine ck Tryz.call140 (fun w' hw=>qc1 yl a (-1) _ (by have e9:(yl) - a<(0:Rat):=(by exact qu8 HL.out);exact ql2 e9) om om) ?_
  iterate 5 refine tk ?_
  refine ck Tryz.call140 (fun w' hw=>qc1 yh a (1) _ (by have e9:(0:Rat)<(yh) - (a):=(by exact qP3 HH.out);exact qs1 e9) om om) ?_
  iterate 7 refine tk ?_
  refine ck Tryz.call146 (fun w' hw=>qa3 aw false _ (decide_eq_false zb2_)) ?_
  iterate 10 refine tk ?_
  refine ck Tryz.call132 (fun w' hw=>qf0 yh yl st _ HZ8.out om om) ?_
  iterate 8 refine tk ?_
  iterate 3 refine sk ?_
  refine tk ?_
  refine nlD Y I fun vw9 J=>?_
  clear Y T I lx2 lx3 lx4 lx5 lx6 lx7 lx8 lx9
  go_wp2
  refine kF_ O ((((((J.out).er 7).er 6).er 5).er 3).er 2) fun Wx10 I=>?_;clear O K
  clear J
  clear hd3 hd4
  refine wp_cond_false (by rfl) ?_
  refine wp_skip ?_
  show Code.wp _ _ _ _ _
  rcases HQ.out with hl|⟨he,ht⟩
  ·obtain ⟨w2,HW2⟩:∃ z,Hid ((2:Rat)*qabs (yl - a)=z):=⟨_,lh_ rfl⟩
   have HAL:Hid (w2<st):=lh_ (HW2.out ▸ hl)
   have HANE:Hid (¬ w2=st):=lh_ (fun e=>by have e9:=HAL.out;rw [e] at e9;exact Rat.lt_irrefl e9)
   clear hl
   have HZ9:Hid (((2:Int):Rat)=(2:Rat)):=lh_ (by decide +kernel)
   have su9:sz ((2:Rat))≤2:=qc9 (qa2.2 (by decide +kernel)) (qa2.2 (by decide +kernel))
   obtain ⟨u10,HZ10⟩:=ex_ (yl - a)
   have su10:sz u10≤28:=by rw [← HZ10.out];have:=ql8 yl a;omega
   obtain ⟨u11,HZ11⟩:=ex_ (qabs u10)
   have su11:sz u11≤28:=by rw [← HZ11.out];rw [qx8];omega
   have HZ12:Hid ((2:Rat)*(u11)=w2):=lh_ (by simp only [← HZ11.out,← HZ10.out];first|exact HW2.out|(rw [← qe0 HH.out];exact HW2.out))
   have su12:sz w2≤30:=by have e:=HZ12.out;first|omega|(rw [← e];have:=qe2 (2:Rat) u11;omega)
   have lx2:=kc0_ I
   have lx6:=kc2_ I
   refine kS fun K O=>?_
   refine qa1 7 [6] [] (fun _=>19) (fun _=>.cells #[.int .u64 0,.string ⟨#[]⟩,.bool false,.int .u64 0,.string ⟨#[]⟩] 36) [(true,1),(true,2),(true,0),(true,3),(true,4),(true,5)] (by kernel_rfl) (by kernel_rfl) zb0_ (fun i hi=>by cases hi) (fun _ _ _ _ _ h=>h) (fun T Y=>?_)
   refine tk2_ ?_
   refine ck Tryz.call147 (fun w' hw=>qb9 (2) (2:Rat) _ HZ9.out om om) ?_
   refine ck Tryz.call132 (fun w' hw=>qf0 yl a u10 _ HZ10.out om om) ?_
   refine ck Tryz.call137 (fun w' hw=>qp5 u10 u11 _ HZ11.out) ?_
   refine ck Tryz.call134 (fun w' hw=>qc5 (2:Rat) u11 w2 _ HZ12.out om om) ?_
   refine qa0 (Y.out _ _ ?_)
   intro G vw10 hg hf
   simp only [puts,Act.put,lA,lB,lC,lD,lE,↓reduceIte,Nat.reduceEqDiff]
   have J:=lh_ (I.out.fr hg hf (zs:=[(#[.int .u64 0,.string ⟨#[]⟩,.bool false,.int .u64 0,.string ⟨#[]⟩],36)]) rfl (by decide) (by decide))
   simp only [zq1_,zq2_,zq3_,zq4_,lF,lG] at J
   clear Y T I hg hf lx2 lx6
   generalize G 6=gx10 at *
   have lx10:=kc3_ J;have fx10:=kf3_ J
   have r0:=Gr.refl vw10
   go_wp2
   refine kO O ?_;clear O K
   clear r0 lx10 fx10
   refine fH ((((J.out).put2 3 0 rfl).put2 3 2 rfl).put 3 4 _ rfl) fun Wx12 I=>?_
   clear J
   have HZ13:Hid (((2:Int):Rat)=(2:Rat)):=lh_ (by decide +kernel)
   have su13:sz ((2:Rat))≤2:=qc9 (qa2.2 (by decide +kernel)) (qa2.2 (by decide +kernel))
   have HZ14:Hid ((2:Rat)*(st)=s2):=lh_ (HS2.out)
   have su14:sz s2≤14:=by have e:=HZ14.out;first|omega|(rw [← e];have:=qe2 (2:Rat) st;omega)
   obtain ⟨u15,HZ15⟩:=ex_ (yl / s2)
   have su15:sz u15≤34:=by rw [← HZ15.out];have:=qi0 yl s2;omega
   have lx3:=kc1_ I
   have lx6:=kc2_ I
   refine kS fun K O=>?_
   refine qa1 9 [8] [7] (fun _=>20) (fun _=>.cells #[.int .u64 0,.string ⟨#[]⟩,.bool false,.int .u64 0,.string ⟨#[]⟩] 36) [(true,0),(true,2),(true,1),(true,3),(true,4),(true,5),(true,6),(true,7)] (by kernel_rfl) (by kernel_rfl) zb0_ zb3_ (fun _ _ _ _ _ h=>h) (fun T Y=>?_)
   refine tk2_ ?_
   refine ck Tryz.call147 (fun w' hw=>qb9 (2) (2:Rat) _ HZ13.out om om) ?_
   refine ck Tryz.call134 (fun w' hw=>qc5 (2:Rat) st s2 _ HZ14.out om om) ?_
   refine ck Tryz.call79 (fun w' hw=>qd_ yl s2 u15 _ HZ15.out (by exact HS20.out) om om) ?_
   refine tk3_ ?_
   refine qa0 (Y.out _ _ ?_)
   intro G vw11 hg hf
   simp only [puts,Act.put,lA,lB,lC,lD,lE,↓reduceIte,Nat.reduceEqDiff]
   have J:=lh_ (I.out.fr hg hf (zs:=[(#[.int .u64 0,.string ⟨#[]⟩,.bool false,.int .u64 0,.string ⟨#[]⟩],36)]) rfl (by decide) (by decide))
   simp only [zq1_,zq2_,zq3_,zq4_,lF,lG] at J
   clear Y T I hg hf lx3 lx6
   generalize G 8=gx11 at *
   have lx11:=kc4_ J;have fx11:=kf4_ J
   have r0:=Gr.refl vw11
   go_wp2
   refine kO O ?_;clear O K
   clear r0 lx11 fx11
   refine fH (((((J.out).put2 4 0 rfl).put2 4 2 rfl).put 4 4 _ rfl).er 2) fun Wx13 I=>?_
   clear J
   refine wp_seq ?_
   have hd5:decide (w2=st)=false:=decide_eq_false (by first|exact ok|exact HANE.out|exact HYL.out|exact HYH.out|exact HN.out|exact HNE.out|exact HNEH.out|exact HSUB.out|exact HKD.out|exact HMD.out|exact HAD.out|exact Rat.sub_self|exact qe0 HH.out|(simp only [← HZ15.out,← HZ11.out,← HZ10.out] <;> first|exact ok|exact HANE.out|exact HYL.out|exact HYH.out|exact HN.out|exact HNE.out|exact HNEH.out|exact HSUB.out|exact HKD.out|exact HMD.out|exact HAD.out|exact Rat.sub_self|exact qe0 HH.out))
   have lx3:=kc1_ I
   have lx10:=kc2_ I
   have lx11:=kc3_ I
   refine qS_ fun K O T Y=>?_
   refine tk2_ ?_
   refine ck Tryz.call140 (fun w' hw=>qc1 w2 st (-1) _ (by have e9:(w2) - st<(0:Rat):=(by exact qu8 HAL.out);exact ql2 e9) om om) ?_
   iterate 6 refine tk ?_
   iterate 3 refine sk ?_
   refine tk2_ ?_
   refine nzR Y O (fun w2 hg=>(((I.out.gr hg).er 3).er 2).er 1) ?_;clear Y T I lx3 lx10 lx11 O K;intro Wx14 I
   clear hd5
   refine wp_cond_false (by rfl) ?_
   refine wp_skip ?_
   show Code.wp _ _ _ _ _
   refine wp_seq ?_
   refine kSl fun K O=>?_;go_wp2
   refine kF_ O (I.out) fun Wx16 J=>?_;clear O K
   clear I;have I:=J;clear J
   refine wp_block ?_
   go_loopg [22] 3 (fun k iv wr=>∃ j:Nat,iv=.int .i64 (j:Int)∧j+k=4∧1≤j∧Hid (HP w wr [Sum.inl (gx2,36,#[.int .u64 (lo a.num.natAbs),.string (bg a.num.natAbs),.bool (a.num<0),.int .u64 (lo (a.den - 1)),.string (bg (a.den - 1))])]))
   case atStart=>exact ⟨1,rfl,rfl,Nat.le_refl _,I⟩
   case round =>
    rename_i J_ K_ h1_ h0_
    clear I
    obtain ⟨j,rfl,hjk,hj1,I⟩:=hrel
    rcases gk with _|k9
    ·refine wp_seq ?_
     have hle9:¬ (j:Int)≤3:=by omega
     refine ks2_ fun K O T Y=>?_
     refine tk2_ ?_
     refine nz Y I O ?_;clear Y T I O K;intro vw13 I
     clear hle9
     refine wp_cond_false (by rfl) ?_
     refine wp_exit ?_
     show Code.wp _ _ _ _ _
     have HB:=HPb I
     refine ks2_ fun K O T Y=>?_
     refine ck Tryz.call64 (fun w' hw=>worksd_any _ (lh_ (HT.out.gr (Gr.trans HB.out hw)))) ?_
     refine tk ?_
     refine nzR Y O (fun w2 hg=>(I.out.gr hg).er 0) ?_;clear Y T I HB O K;intro Wx23 I
     refine wp_ret ?_
     try simp only [Exit.then,Exit.inBlock]
     exact bR ⟨rfl,I.out.1⟩ qL5
    obtain ⟨o,HO⟩:∃ z,Hid (rdd (j:Int) a k=z):=⟨_,lh_ rfl⟩
    have HO2:Hid (rdd (j:Int) o k=o):=lh_ (by rw [← HO.out];exact HRR.out _)
    have hso:sz o≤20:=by rw [← HO.out];exact qb4 om om
    refine wp_seq ?_
    have hle9:(j:Int)≤3:=by omega
    refine ks2_ fun K O T Y=>?_
    refine tk2_ ?_
    refine nz Y I O ?_;clear Y T I O K;intro vw13 I
    clear hle9
    refine wp_cond_true (by rfl) ?_
    refine wp_skip ?_
    show Code.wp _ _ _ _ _
    refine wp_seq ?_
    refine wp_block ?_
    have HZ16:Hid (rdd ((j:Int)) a k=o):=lh_ (HO.out)
    have su16:sz o≤20:=by have e:=HZ16.out;first|omega|(rw [← e];exact qb4 om om)
    have lx2:=kc0_ I
    refine ks7_ fun K O T Y=>?_
    refine tk3_ ?_
    refine ck Tryz.call168 (fun w' hw=>qd9 ((j:Int)) a k o _ HZ16.out om om om om) ?_
    refine tk3_ ?_
    refine nlS Y I fun vw14 J=>?_
    clear Y T I lx2
    go_wp2
    refine kF_ O ((J.out).aL (vw14.heap.size)) fun Wx19 I=>?_;clear O K
    clear J
    generalize vw14.heap.size=gx12 at *
    have HZ17:Hid (rdd ((j:Int)) o k=o):=lh_ (HO2.out)
    have su17:sz o≤20:=by have e:=HZ17.out;first|omega|(rw [← e];exact qb4 om om)
    have lx12:=kc1_ I
    refine ks7_ fun K O T Y=>?_
    refine tk3_ ?_
    refine ck Tryz.call168 (fun w' hw=>qd9 ((j:Int)) o k o _ HZ17.out om om om om) ?_
    refine tk3_ ?_
    refine nlS Y I fun vw15 J=>?_
    clear Y T I lx12
    go_wp2
    refine kF_ O ((J.out).aL (vw15.heap.size)) fun Wx20 I=>?_;clear O K
    clear J
    generalize vw15.heap.size=gx13 at *
    have lx12:=kc1_ I
    have lx13:=kc2_ I
    refine ks7_ fun K O T Y=>?_
    iterate 7 refine tk ?_
    refine nz Y I O ?_;clear Y T I lx12 lx13 O K;intro vw16 I
    refine wp_cond_false (by rfl) ?_
    refine wp_skip ?_
    show Code.wp _ _ _ _ _
    have hwi:IntKind.i64.wrap ((j:Int)+1)=(j:Int)+1:=by rw [IntKind.wrap_i64];omega
    refine kL fun K O=>?_
    refine sq3_ fun T Y=>?_
    refine tk3_ ?_
    refine nlS Y I fun vw17 J=>?_
    clear Y T I
    go_wp2
    refine O.out _ _ ?_;clear O K
    try simp only [Exit.then,Exit.inBlock]
    have I:=lh_ (J.out);clear J
    clear hwi
    refine h0_ _ _ ?_
    go_roundg k9
    case measure=>omega
    case rel=>exact ⟨j+1,rfl,by omega,by omega,lh_ (((I.out).er 2).er 1)⟩
  have HW2:=lh_ he
  obtain ⟨tt,HTT⟩:=ex_ (yl / s2)
  have HTD:Hid (tt.den=1):=lh_ (HTT.out ▸ ht)
  clear he ht
  have HZ9:Hid (((2:Int):Rat)=(2:Rat)):=lh_ (by decide +kernel)
  have su9:sz ((2:Rat))≤2:=qc9 (qa2.2 (by decide +kernel)) (qa2.2 (by decide +kernel))
  obtain ⟨u10,HZ10⟩:=ex_ (yl - a)
  have su10:sz u10≤28:=by rw [← HZ10.out];have:=ql8 yl a;omega
  obtain ⟨u11,HZ11⟩:=ex_ (qabs u10)
  have su11:sz u11≤28:=by rw [← HZ11.out];rw [qx8];omega
  have HZ12:Hid ((2:Rat)*(u11)=st):=lh_ (by simp only [← HZ11.out,← HZ10.out];first|exact HW2.out|(rw [← qe0 HH.out];exact HW2.out))
  have su12:sz st≤30:=by have e:=HZ12.out;first|omega|(rw [← e];have:=qe2 (2:Rat) u11;omega)
  have lx2:=kc0_ I
  have lx6:=kc2_ I
  refine kS fun K O=>?_
  refine qa1 7 [6] [] (fun _=>19) (fun _=>.cells #[.int .u64 0,.string ⟨#[]⟩,.bool false,.int .u64 0,.string ⟨#[]⟩] 36) [(true,1),(true,2),(true,0),(true,3),(true,4),(true,5)] (by kernel_rfl) (by kernel_rfl) zb0_ (fun i hi=>by cases hi) (fun _ _ _ _ _ h=>h) (fun T Y=>?_)
  refine tk2_ ?_
  refine ck Tryz.call147 (fun w' hw=>qb9 (2) (2:Rat) _ HZ9.out om om) ?_
  refine ck Tryz.call132 (fun w' hw=>qf0 yl a u10 _ HZ10.out om om) ?_
  refine ck Tryz.call137 (fun w' hw=>qp5 u10 u11 _ HZ11.out) ?_
  refine ck Tryz.call134 (fun w' hw=>qc5 (2:Rat) u11 st _ HZ12.out om om) ?_
  refine qa0 (Y.out _ _ ?_)
  intro G vw10 hg hf
  simp only [puts,Act.put,lA,lB,lC,lD,lE,↓reduceIte,Nat.reduceEqDiff]
  have J:=lh_ (I.out.fr hg hf (zs:=[(#[.int .u64 0,.string ⟨#[]⟩,.bool false,.int .u64 0,.string ⟨#[]⟩],36)]) rfl (by decide) (by decide))
  simp only [zq1_,zq2_,zq3_,zq4_,lF,lG] at J
  clear Y T I hg hf lx2 lx6
  generalize G 6=gx10 at *
  have lx10:=kc3_ J;have fx10:=kf3_ J
  have r0:=Gr.refl vw10
  go_wp2
  refine kO O ?_;clear O K
  clear r0 lx10 fx10
  refine fH ((((J.out).put2 3 0 rfl).put2 3 2 rfl).put 3 4 _ rfl) fun Wx12 I=>?_
  clear J
  have HZ13:Hid (((2:Int):Rat)=(2:Rat)):=lh_ (by decide +kernel)
  have su13:sz ((2:Rat))≤2:=qc9 (qa2.2 (by decide +kernel)) (qa2.2 (by decide +kernel))
  have HZ14:Hid ((2:Rat)*(st)=s2):=lh_ (HS2.out)
  have su14:sz s2≤14:=by have e:=HZ14.out;first|omega|(rw [← e];have:=qe2 (2:Rat) st;omega)
  have HZ15:Hid (yl / s2=tt):=lh_ (HTT.out)
  have su15:sz tt≤60:=by have e:=HZ15.out;first|omega|(rw [← e];have:=qi0 yl s2;omega)
  have lx3:=kc1_ I
  have lx6:=kc2_ I
  refine kS fun K O=>?_
  refine qa1 9 [8] [7] (fun _=>20) (fun _=>.cells #[.int .u64 0,.string ⟨#[]⟩,.bool false,.int .u64 0,.string ⟨#[]⟩] 36) [(true,0),(true,2),(true,1),(true,3),(true,4),(true,5),(true,6),(true,7)] (by kernel_rfl) (by kernel_rfl) zb0_ zb3_ (fun _ _ _ _ _ h=>h) (fun T Y=>?_)
  refine tk2_ ?_
  refine ck Tryz.call147 (fun w' hw=>qb9 (2) (2:Rat) _ HZ13.out om om) ?_
  refine ck Tryz.call134 (fun w' hw=>qc5 (2:Rat) st s2 _ HZ14.out om om) ?_
  refine ck Tryz.call79 (fun w' hw=>qd_ yl s2 tt _ HZ15.out (by exact HS20.out) om om) ?_
  refine tk3_ ?_
  refine qa0 (Y.out _ _ ?_)
  intro G vw11 hg hf
  simp only [puts,Act.put,lA,lB,lC,lD,lE,↓reduceIte,Nat.reduceEqDiff]
  have J:=lh_ (I.out.fr hg hf (zs:=[(#[.int .u64 0,.string ⟨#[]⟩,.bool false,.int .u64 0,.string ⟨#[]⟩],36)]) rfl (by decide) (by decide))
  simp only [zq1_,zq2_,zq3_,zq4_,lF,lG] at J
  clear Y T I hg hf lx3 lx6
  generalize G 8=gx11 at *
  have lx11:=kc4_ J;have fx11:=kf4_ J
  have r0:=Gr.refl vw11
  go_wp2
  refine kO O ?_;clear O K
  clear r0 lx11 fx11
  refine fH (((((J.out).put2 4 0 rfl).put2 4 2 rfl).put 4 4 _ rfl).er 2) fun Wx13 I=>?_
  clear J
  refine wp_seq ?_
  have lx3:=kc1_ I
  have lx10:=kc2_ I
  have lx11:=kc3_ I
  refine qS_ fun K O T Y=>?_
  refine tk2_ ?_
  refine ck Tryz.call140 (fun w' hw=>qc1 st st (0) _ (by have e9:(st) - st=(0:Rat):=xM3;exact qg6 e9) om om) ?_
  iterate 7 refine tk ?_
  refine ck Tryz.call146 (fun w' hw=>qa3 tt true _ (decide_eq_true xM3)) ?_
  refine tk3_ ?_
  refine nzR Y O (fun w2 hg=>(((I.out.gr hg).er 3).er 2).er 1) ?_;clear Y T I lx3 lx10 lx11 O K;intro Wx14 I
  refine wp_cond_false (by rfl) ?_
  refine wp_skip ?_
  show Code.wp _ _ _ _ _
  refine wp_seq ?_
  refine kSl fun K O=>?_;go_wp2
  refine kF_ O (I.out) fun Wx16 J=>?_;clear O K
  clear I;have I:=J;clear J
  refine wp_block ?_
  go_loopg [22] 3 (fun k iv wr=>∃ j:Nat,iv=.int .i64 (j:Int)∧j+k=4∧1≤j∧Hid (HP w wr [Sum.inl (gx2,36,#[.int .u64 (lo a.num.natAbs),.string (bg a.num.natAbs),.bool (a.num<0),.int .u64 (lo (a.den - 1)),.string (bg (a.den - 1))])]))
  case atStart=>exact ⟨1,rfl,rfl,Nat.le_refl _,I⟩
  case round =>
   rename_i J_ K_ h1_ h0_
   clear I
   obtain ⟨j,rfl,hjk,hj1,I⟩:=hrel
   rcases gk with _|k9
   ·refine wp_seq ?_
    have hle9:¬ (j:Int)≤3:=by omega
    refine ks2_ fun K O T Y=>?_
    refine tk2_ ?_
    refine nz Y I O ?_;clear Y T I O K;intro vw13 I
    clear hle9
    refine wp_cond_false (by rfl) ?_
    refine wp_exit ?_
    show Code.wp _ _ _ _ _
    have HB:=HPb I
    refine ks2_ fun K O T Y=>?_
    refine ck Tryz.call64 (fun w' hw=>worksd_any _ (lh_ (HT.out.gr (Gr.trans HB.out hw)))) ?_
    refine tk ?_
    refine nzR Y O (fun w2 hg=>(I.out.gr hg).er 0) ?_;clear Y T I HB O K;intro Wx23 I
    refine wp_ret ?_
    try simp only [Exit.then,Exit.inBlock]
    exact bR ⟨rfl,I.out.1⟩ qL5
   obtain ⟨o,HO⟩:∃ z,Hid (rdd (j:Int) a k=z):=⟨_,lh_ rfl⟩
   have HO2:Hid (rdd (j:Int) o k=o):=lh_ (by rw [← HO.out];exact HRR.out _)
   have hso:sz o≤20:=by rw [← HO.out];exact qb4 om om
   refine wp_seq ?_
   have hle9:(j:Int)≤3:=by omega
   refine ks2_ fun K O T Y=>?_
   refine tk2_ ?_
   refine nz Y I O ?_;clear Y T I O K;intro vw13 I
   clear hle9
   refine wp_cond_true (by rfl) ?_
   refine wp_skip ?_
   show Code.wp _ _ _ _ _
   refine wp_seq ?_
   refine wp_block ?_
   have HZ16:Hid (rdd ((j:Int)) a k=o):=lh_ (HO.out)
   have su16:sz o≤20:=by have e:=HZ16.out;first|omega|(rw [← e];exact qb4 om om)
   have lx2:=kc0_ I
   refine ks7_ fun K O T Y=>?_
   refine tk3_ ?_
   refine ck Tryz.call168 (fun w' hw=>qd9 ((j:Int)) a k o _ HZ16.out om om om om) ?_
   refine tk3_ ?_
   refine nlS Y I fun vw14 J=>?_
   clear Y T I lx2
   go_wp2
   refine kF_ O ((J.out).aL (vw14.heap.size)) fun Wx19 I=>?_;clear O K
   clear J
   generalize vw14.heap.size=gx12 at *
   have HZ17:Hid (rdd ((j:Int)) o k=o):=lh_ (HO2.out)
   have su17:sz o≤20:=by have e:=HZ17.out;first|omega|(rw [← e];exact qb4 om om)
   have lx12:=kc1_ I
   refine ks7_ fun K O T Y=>?_
   refine tk3_ ?_
   refine ck Tryz.call168 (fun w' hw=>qd9 ((j:Int)) o k o _ HZ17.out om om om om) ?_
   refine tk3_ ?_
   refine nlS Y I fun vw15 J=>?_
   clear Y T I lx12
   go_wp2
   refine kF_ O ((J.out).aL (vw15.heap.size)) fun Wx20 I=>?_;clear O K
   clear J
   generalize vw15.heap.size=gx13 at *
   have lx12:=kc1_ I
   have lx13:=kc2_ I
   refine ks7_ fun K O T Y=>?_
   iterate 7 refine tk ?_
   refine nz Y I O ?_;clear Y T I lx12 lx13 O K;intro vw16 I
   refine wp_cond_false (by rfl) ?_
   refine wp_skip ?_
   show Code.wp _ _ _ _ _
   have hwi:IntKind.i64.wrap ((j:Int)+1)=(j:Int)+1:=by rw [IntKind.wrap_i64];omega
   refine kL fun K O=>?_
   refine sq3_ fun T Y=>?_
   refine tk3_ ?_
   refine nlS Y I fun vw17 J=>?_
   clear Y T I
   go_wp2
   refine O.out _ _ ?_;clear O K
   try simp only [Exit.then,Exit.inBlock]
   have I:=lh_ (J.out);clear J
   clear hwi
   refine h0_ _ _ ?_
   go_roundg k9
   case measure=>omega
   case rel=>exact ⟨j+1,rfl,by omega,by omega,lh_ (((I.out).er 2).er 1)⟩
 have HN:=lh_ hn
 have HQ:=lh_ hq
 clear hn hq
 have HZ4:Hid (rdd (3) a k=yh):=lh_ (HN.out)
 have su4:sz yh≤20:=by have e:=HZ4.out;first|omega|(rw [← e];exact qb4 om om)
 have lx2:=kc0_ I
 refine ks6_ fun K O T Y=>?_
 refine tk2_ ?_
 refine ck Tryz.call168 (fun w' hw=>qd9 (3) a k yh _ HZ4.out om om om om) ?_
 refine tk3_ ?_
 refine nlS Y I fun vw5 J=>?_
 clear Y T I lx2
 go_wp2
 refine kF_ O ((J.out).aL (vw5.heap.size)) fun Wx6 I=>?_;clear O K
 clear J
 generalize vw5.heap.size=gx6 at *
 have HZ5:Hid (yl / st=kl):=lh_ (HKL.out)
 have su5:sz kl≤40:=by have e:=HZ5.out;first|omega|(rw [← e];have:=qi0 yl st;omega)
 have lx3:=kc1_ I
 have lx4:=kc2_ I
 refine ks6_ fun K O T Y=>?_
 refine tk2_ ?_
 refine ck Tryz.call79 (fun w' hw=>qd_ yl st kl _ HZ5.out (by exact HS0.out) om om) ?_
 refine tk3_ ?_
 refine nlS Y I fun vw6 J=>?_
 clear Y T I lx3 lx4
 go_wp2
 refine kF_ O ((J.out).aL (vw6.heap.size)) fun Wx7 I=>?_;clear O K
 clear J
 generalize vw6.heap.size=gx7 at *
 have HZ6:Hid (yh / st=km):=lh_ (HKM.out)
 have su6:sz km≤40:=by have e:=HZ6.out;first|omega|(rw [← e];have:=qi0 yh st;omega)
 have lx3:=kc1_ I
 have lx5:=kc3_ I
 refine ks6_ fun K O T Y=>?_
 refine tk2_ ?_
 refine ck Tryz.call79 (fun w' hw=>qd_ yh st km _ HZ6.out (by exact HS0.out) om om) ?_
 refine tk3_ ?_
 refine nlS Y I fun vw7 J=>?_
 clear Y T I lx3 lx5
 go_wp2
 refine kF_ O ((J.out).aL (vw7.heap.size)) fun Wx8 I=>?_;clear O K
 clear J
 generalize vw7.heap.size=gx8 at *
 have HZ7:Hid (a / st=aw):=lh_ (HAW.out)
 have su7:sz aw≤40:=by have e:=HZ7.out;first|omega|(rw [← e];have:=qi0 a st;omega)
 have lx2:=kc0_ I
 have lx3:=kc1_ I
 refine ks6_ fun K O T Y=>?_
 refine tk2_ ?_
 refine ck Tryz.call79 (fun w' hw=>qd_ a st aw _ HZ7.out (by exact HS0.out) om om) ?_
 refine tk3_ ?_
 refine nlS Y I fun vw8 J=>?_
 clear Y T I lx2 lx3
 go_wp2
 refine kF_ O ((J.out).aL (vw8.heap.size)) fun Wx9 I=>?_;clear O K
 clear J
 generalize vw8.heap.size=gx9 at *
 refine wp_seq ?_
 have hd3:decide (yl=yh)=false:=decide_eq_false zb2_
 have hd4:decide (yl=yh)=false:=decide_eq_false zb2_
 have HZ8:Hid (yh - yl=st):=lh_ zb2_
 have su8:sz st≤41:=by have e:=HZ8.out;first|omega|(rw [← e];have:=ql8 yh yl;omega)
 have hd5:decide (yh=yl)=false:=decide_eq_false zb2_
 have lx2:=kc0_ I
 have lx3:=kc1_ I
 have lx4:=kc2_ I
 have lx5:=kc3_ I
 have lx6:=kc4_ I
 have lx7:=kc5_ I
 have lx8:=kc6_ I
 have lx9:=kc7_ I
 refine kS fun K O=>?_
 refine pd1_ fun T Y=>?_
 iterate 12 refine tk ?_
 refine ck Tryz.call146 (fun w' hw=>qa3 kl true _ (decide_eq_true zb2_)) ?_
 iterate 4 refine tk ?_
 refine ck Tryz.call146 (fun w' hw=>qa3 km true _ (decide_eq_true zb2_)) ?_
 iterate 5 refine tk ?_
 refine ck Tryz.call140 (fun w' hw=>qc1 yl a (-1) _ (by have e9:(yl) - a<(0:Rat):=(by exact qu8 HL.out);exact ql2 e9) om om) ?_
 iterate 5 refine tk ?_
 refine ck Tryz.call140 (fun w' hw=>qc1 yh a (1) _ (by have e9:(0:Rat)<(yh) - (a):=(by exact qP3 HH.out);exact qs1 e9) om om) ?_
 iterate 7 refine tk ?_
 refine ck Tryz.call146 (fun w' hw=>qa3 aw false _ (decide_eq_false zb2_)) ?_
 iterate 10 refine tk ?_
 refine ck Tryz.call132 (fun w' hw=>qf0 yh yl st _ HZ8.out om om) ?_
 iterate 12 refine tk ?_
 refine nlD Y I fun vw9 J=>?_
 clear Y T I lx2 lx3 lx4 lx5 lx6 lx7 lx8 lx9
 go_wp2
 refine kF_ O ((((((J.out).er 7).er 6).er 5).er 3).er 2) fun Wx10 I=>?_;clear O K
 clear J
 clear hd3 hd4 hd5
 refine wp_cond_false (by rfl) ?_
 refine wp_skip ?_
 show Code.wp _ _ _ _ _
 rcases HQ.out with hl|⟨he,ht⟩
 ·obtain ⟨w2,HW2⟩:∃ z,Hid ((2:Rat)*qabs (yh - a)=z):=⟨_,lh_ rfl⟩
  have HAL:Hid (w2<st):=lh_ (HW2.out ▸ hl)
  have HANE:Hid (¬ w2=st):=lh_ (fun e=>by have e9:=HAL.out;rw [e] at e9;exact Rat.lt_irrefl e9)
  clear hl
  have HZ9:Hid (((2:Int):Rat)=(2:Rat)):=lh_ (by decide +kernel)
  have su9:sz ((2:Rat))≤2:=qc9 (qa2.2 (by decide +kernel)) (qa2.2 (by decide +kernel))
  obtain ⟨u10,HZ10⟩:=ex_ (yh - a)
  have su10:sz u10≤28:=by rw [← HZ10.out];have:=ql8 yh a;omega
  have HZ11:Hid (qabs u10=u10):=lh_ (by first|exact ok|exact HANE.out|exact HYL.out|exact HYH.out|exact HN.out|exact HNE.out|exact HNEH.out|exact HSUB.out|exact HKD.out|exact HMD.out|exact HAD.out|exact Rat.sub_self|exact qe0 HH.out|(simp only [← HZ10.out] <;> first|exact ok|exact HANE.out|exact HYL.out|exact HYH.out|exact HN.out|exact HNE.out|exact HNEH.out|exact HSUB.out|exact HKD.out|exact HMD.out|exact HAD.out|exact Rat.sub_self|exact qe0 HH.out))
  have su11:sz u10≤28:=by have e:=HZ11.out;first|omega|(rw [← e];rw [qx8];omega)
  have HZ12:Hid ((2:Rat)*(u10)=w2):=lh_ (by simp only [← HZ10.out];first|exact HW2.out|(rw [← qe0 HH.out];exact HW2.out))
  have su12:sz w2≤30:=by have e:=HZ12.out;first|omega|(rw [← e];have:=qe2 (2:Rat) u10;omega)
  have lx2:=kc0_ I
  have lx6:=kc2_ I
  refine kS fun K O=>?_
  refine qa1 7 [6] [] (fun _=>19) (fun _=>.cells #[.int .u64 0,.string ⟨#[]⟩,.bool false,.int .u64 0,.string ⟨#[]⟩] 36) [(true,1),(true,2),(true,0),(true,3),(true,4),(true,5)] (by kernel_rfl) (by kernel_rfl) zb0_ (fun i hi=>by cases hi) (fun _ _ _ _ _ h=>h) (fun T Y=>?_)
  refine tk2_ ?_
  refine ck Tryz.call147 (fun w' hw=>qb9 (2) (2:Rat) _ HZ9.out om om) ?_
  refine ck Tryz.call132 (fun w' hw=>qf0 yh a u10 _ HZ10.out om om) ?_
  refine ck Tryz.call137 (fun w' hw=>qp5 u10 u10 _ HZ11.out) ?_
  refine ck Tryz.call134 (fun w' hw=>qc5 (2:Rat) u10 w2 _ HZ12.out om om) ?_
  refine qa0 (Y.out _ _ ?_)
  intro G vw10 hg hf
  simp only [puts,Act.put,lA,lB,lC,lD,lE,↓reduceIte,Nat.reduceEqDiff]
  have J:=lh_ (I.out.fr hg hf (zs:=[(#[.int .u64 0,.string ⟨#[]⟩,.bool false,.int .u64 0,.string ⟨#[]⟩],36)]) rfl (by decide) (by decide))
  simp only [zq1_,zq2_,zq3_,zq4_,lF,lG] at J
  clear Y T I hg hf lx2 lx6
  generalize G 6=gx10 at *
  have lx10:=kc3_ J;have fx10:=kf3_ J
  have r0:=Gr.refl vw10
  go_wp2
  refine kO O ?_;clear O K
  clear r0 lx10 fx10
  refine fH ((((J.out).put2 3 0 rfl).put2 3 2 rfl).put 3 4 _ rfl) fun Wx12 I=>?_
  clear J
  have HZ13:Hid (((2:Int):Rat)=(2:Rat)):=lh_ (by decide +kernel)
  have su13:sz ((2:Rat))≤2:=qc9 (qa2.2 (by decide +kernel)) (qa2.2 (by decide +kernel))
  have HZ14:Hid ((2:Rat)*(st)=s2):=lh_ (HS2.out)
  have su14:sz s2≤14:=by have e:=HZ14.out;first|omega|(rw [← e];have:=qe2 (2:Rat) st;omega)
  obtain ⟨u15,HZ15⟩:=ex_ (yh / s2)
  have su15:sz u15≤34:=by rw [← HZ15.out];have:=qi0 yh s2;omega
  have lx3:=kc1_ I
  have lx6:=kc2_ I
  refine kS fun K O=>?_
  refine qa1 9 [8] [7] (fun _=>20) (fun _=>.cells #[.int .u64 0,.string ⟨#[]⟩,.bool false,.int .u64 0,.string ⟨#[]⟩] 36) [(true,0),(true,2),(true,1),(true,3),(true,4),(true,5),(true,6),(true,7)] (by kernel_rfl) (by kernel_rfl) zb0_ zb3_ (fun _ _ _ _ _ h=>h) (fun T Y=>?_)
  refine tk2_ ?_
  refine ck Tryz.call147 (fun w' hw=>qb9 (2) (2:Rat) _ HZ13.out om om) ?_
  refine ck Tryz.call134 (fun w' hw=>qc5 (2:Rat) st s2 _ HZ14.out om om) ?_
  refine ck Tryz.call79 (fun w' hw=>qd_ yh s2 u15 _ HZ15.out (by exact HS20.out) om om) ?_
  refine tk3_ ?_
  refine qa0 (Y.out _ _ ?_)
  intro G vw11 hg hf
  simp only [puts,Act.put,lA,lB,lC,lD,lE,↓reduceIte,Nat.reduceEqDiff]
  have J:=lh_ (I.out.fr hg hf (zs:=[(#[.int .u64 0,.string ⟨#[]⟩,.bool false,.int .u64 0,.string ⟨#[]⟩],36)]) rfl (by decide) (by decide))
  simp only [zq1_,zq2_,zq3_,zq4_,lF,lG] at J
  clear Y T I hg hf lx3 lx6
  generalize G 8=gx11 at *
  have lx11:=kc4_ J;have fx11:=kf4_ J
  have r0:=Gr.refl vw11
  go_wp2
  refine kO O ?_;clear O K
  clear r0 lx11 fx11
  refine fH (((((J.out).put2 4 0 rfl).put2 4 2 rfl).put 4 4 _ rfl).er 2) fun Wx13 I=>?_
  clear J
  refine wp_seq ?_
  have hd6:decide (w2=st)=false:=decide_eq_false (by first|exact ok|exact HANE.out|exact HYL.out|exact HYH.out|exact HN.out|exact HNE.out|exact HNEH.out|exact HSUB.out|exact HKD.out|exact HMD.out|exact HAD.out|exact Rat.sub_self|exact qe0 HH.out|(simp only [← HZ15.out,← HZ10.out] <;> first|exact ok|exact HANE.out|exact HYL.out|exact HYH.out|exact HN.out|exact HNE.out|exact HNEH.out|exact HSUB.out|exact HKD.out|exact HMD.out|exact HAD.out|exact Rat.sub_self|exact qe0 HH.out))
  have lx3:=kc1_ I
  have lx10:=kc2_ I
  have lx11:=kc3_ I
  refine qS_ fun K O T Y=>?_
  refine tk2_ ?_
  refine ck Tryz.call140 (fun w' hw=>qc1 w2 st (-1) _ (by have e9:(w2) - st<(0:Rat):=(by exact qu8 HAL.out);exact ql2 e9) om om) ?_
  iterate 6 refine tk ?_
  iterate 3 refine sk ?_
  refine tk2_ ?_
  refine nzR Y O (fun w2 hg=>(((I.out.gr hg).er 3).er 2).er 1) ?_;clear Y T I lx3 lx10 lx11 O K;intro Wx14 I
  clear hd6
  refine wp_cond_false (by rfl) ?_
  refine wp_skip ?_
  show Code.wp _ _ _ _ _
  refine wp_seq ?_
  refine kSl fun K O=>?_;go_wp2
  refine kF_ O (I.out) fun Wx16 J=>?_;clear O K
  clear I;have I:=J;clear J
  refine wp_block ?_
  go_loopg [22] 3 (fun k iv wr=>∃ j:Nat,iv=.int .i64 (j:Int)∧j+k=4∧1≤j∧Hid (HP w wr [Sum.inl (gx2,36,#[.int .u64 (lo a.num.natAbs),.string (bg a.num.natAbs),.bool (a.num<0),.int .u64 (lo (a.den - 1)),.string (bg (a.den - 1))])]))
  case atStart=>exact ⟨1,rfl,rfl,Nat.le_refl _,I⟩
  case round =>
   rename_i J_ K_ h1_ h0_
   clear I
   obtain ⟨j,rfl,hjk,hj1,I⟩:=hrel
   rcases gk with _|k9
   ·refine wp_seq ?_
    have hle9:¬ (j:Int)≤3:=by omega
    refine ks2_ fun K O T Y=>?_
    refine tk2_ ?_
    refine nz Y I O ?_;clear Y T I O K;intro vw13 I
    clear hle9
    refine wp_cond_false (by rfl) ?_
    refine wp_exit ?_
    show Code.wp _ _ _ _ _
    have HB:=HPb I
    refine ks2_ fun K O T Y=>?_
    refine ck Tryz.call64 (fun w' hw=>worksd_any _ (lh_ (HT.out.gr (Gr.trans HB.out hw)))) ?_
    refine tk ?_
    refine nzR Y O (fun w2 hg=>(I.out.gr hg).er 0) ?_;clear Y T I HB O K;intro Wx23 I
    refine wp_ret ?_
    try simp only [Exit.then,Exit.inBlock]
    exact bR ⟨rfl,I.out.1⟩ qL5
   obtain ⟨o,HO⟩:∃ z,Hid (rdd (j:Int) a k=z):=⟨_,lh_ rfl⟩
   have HO2:Hid (rdd (j:Int) o k=o):=lh_ (by rw [← HO.out];exact HRR.out _)
   have hso:sz o≤20:=by rw [← HO.out];exact qb4 om om
   refine wp_seq ?_
   have hle9:(j:Int)≤3:=by omega
   refine ks2_ fun K O T Y=>?_
   refine tk2_ ?_
   refine nz Y I O ?_;clear Y T I O K;intro vw13 I
   clear hle9
   refine wp_cond_true (by rfl) ?_
   refine wp_skip ?_
   show Code.wp _ _ _ _ _
   refine wp_seq ?_
   refine wp_block ?_
   have HZ16:Hid (rdd ((j:Int)) a k=o):=lh_ (HO.out)
   have su16:sz o≤20:=by have e:=HZ16.out;first|omega|(rw [← e];exact qb4 om om)
   have lx2:=kc0_ I
   refine ks7_ fun K O T Y=>?_
   refine tk3_ ?_
   refine ck Tryz.call168 (fun w' hw=>qd9 ((j:Int)) a k o _ HZ16.out om om om om) ?_
   refine tk3_ ?_
   refine nlS Y I fun vw14 J=>?_
   clear Y T I lx2
   go_wp2
   refine kF_ O ((J.out).aL (vw14.heap.size)) fun Wx19 I=>?_;clear O K
   clear J
   generalize vw14.heap.size=gx12 at *
   have HZ17:Hid (rdd ((j:Int)) o k=o):=lh_ (HO2.out)
   have su17:sz o≤20:=by have e:=HZ17.out;first|omega|(rw [← e];exact qb4 om om)
   have lx12:=kc1_ I
   refine ks7_ fun K O T Y=>?_
   refine tk3_ ?_
   refine ck Tryz.call168 (fun w' hw=>qd9 ((j:Int)) o k o _ HZ17.out om om om om) ?_
   refine tk3_ ?_
   refine nlS Y I fun vw15 J=>?_
   clear Y T I lx12
   go_wp2
   refine kF_ O ((J.out).aL (vw15.heap.size)) fun Wx20 I=>?_;clear O K
   clear J
   generalize vw15.heap.size=gx13 at *
   have lx12:=kc1_ I
   have lx13:=kc2_ I
   refine ks7_ fun K O T Y=>?_
   iterate 7 refine tk ?_
   refine nz Y I O ?_;clear Y T I lx12 lx13 O K;intro vw16 I
   refine wp_cond_false (by rfl) ?_
   refine wp_skip ?_
   show Code.wp _ _ _ _ _
   have hwi:IntKind.i64.wrap ((j:Int)+1)=(j:Int)+1:=by rw [IntKind.wrap_i64];omega
   refine kL fun K O=>?_
   refine sq3_ fun T Y=>?_
   refine tk3_ ?_
   refine nlS Y I fun vw17 J=>?_
   clear Y T I
   go_wp2
   refine O.out _ _ ?_;clear O K
   try simp only [Exit.then,Exit.inBlock]
   have I:=lh_ (J.out);clear J
   clear hwi
   refine h0_ _ _ ?_
   go_roundg k9
   case measure=>omega
   case rel=>exact ⟨j+1,rfl,by omega,by omega,lh_ (((I.out).er 2).er 1)⟩
 have HW2:=lh_ he
 obtain ⟨tt,HTT⟩:=ex_ (yh / s2)
 have HTD:Hid (tt.den=1):=lh_ (HTT.out ▸ ht)
 clear he ht
 have HZ9:Hid (((2:Int):Rat)=(2:Rat)):=lh_ (by decide +kernel)
 have su9:sz ((2:Rat))≤2:=qc9 (qa2.2 (by decide +kernel)) (qa2.2 (by decide +kernel))
 obtain ⟨u10,HZ10⟩:=ex_ (yh - a)
 have su10:sz u10≤28:=by rw [← HZ10.out];have:=ql8 yh a;omega
 have HZ11:Hid (qabs u10=u10):=lh_ xD8
 have su11:sz u10≤28:=by have e:=HZ11.out;first|omega|(rw [← e];rw [qx8];omega)
 have HZ12:Hid ((2:Rat)*(u10)=st):=lh_ (by simp only [← HZ10.out];first|exact HW2.out|(rw [← qe0 HH.out];exact HW2.out))
 have su12:sz st≤30:=by have e:=HZ12.out;first|omega|(rw [← e];have:=qe2 (2:Rat) u10;omega)
 have lx2:=kc0_ I
 have lx6:=kc2_ I
 refine kS fun K O=>?_
 refine qa1 7 [6] [] (fun _=>19) (fun _=>.cells #[.int .u64 0,.string ⟨#[]⟩,.bool false,.int .u64 0,.string ⟨#[]⟩] 36) [(true,1),(true,2),(true,0),(true,3),(true,4),(true,5)] (by kernel_rfl) (by kernel_rfl) zb0_ (fun i hi=>by cases hi) (fun _ _ _ _ _ h=>h) (fun T Y=>?_)
 refine tk2_ ?_
 refine ck Tryz.call147 (fun w' hw=>qb9 (2) (2:Rat) _ HZ9.out om om) ?_
 refine ck Tryz.call132 (fun w' hw=>qf0 yh a u10 _ HZ10.out om om) ?_
 refine ck Tryz.call137 (fun w' hw=>qp5 u10 u10 _ HZ11.out) ?_
 refine ck Tryz.call134 (fun w' hw=>qc5 (2:Rat) u10 st _ HZ12.out om om) ?_
 refine qa0 (Y.out _ _ ?_)
 intro G vw10 hg hf
 simp only [puts,Act.put,lA,lB,lC,lD,lE,↓reduceIte,Nat.reduceEqDiff]
 have J:=lh_ (I.out.fr hg hf (zs:=[(#[.int .u64 0,.string ⟨#[]⟩,.bool false,.int .u64 0,.string ⟨#[]⟩],36)]) rfl (by decide) (by decide))
 simp only [zq1_,zq2_,zq3_,zq4_,lF,lG] at J
 clear Y T I hg hf lx2 lx6
 generalize G 6=gx10 at *
 have lx10:=kc3_ J;have fx10:=kf3_ J
 have r0:=Gr.refl vw10
 go_wp2
 refine kO O ?_;clear O K
 clear r0 lx10 fx10
 refine fH ((((J.out).put2 3 0 rfl).put2 3 2 rfl).put 3 4 _ rfl) fun Wx12 I=>?_
 clear J
 have HZ13:Hid (((2:Int):Rat)=(2:Rat)):=lh_ (by decide +kernel)
 have su13:sz ((2:Rat))≤2:=qc9 (qa2.2 (by decide +kernel)) (qa2.2 (by decide +kernel))
 have HZ14:Hid ((2:Rat)*(st)=s2):=lh_ (HS2.out)
 have su14:sz s2≤14:=by have e:=HZ14.out;first|omega|(rw [← e];have:=qe2 (2:Rat) st;omega)
 have HZ15:Hid (yh / s2=tt):=lh_ (HTT.out)
 have su15:sz tt≤60:=by have e:=HZ15.out;first|omega|(rw [← e];have:=qi0 yh s2;omega)
 have lx3:=kc1_ I
 have lx6:=kc2_ I
 refine kS fun K O=>?_
 refine qa1 9 [8] [7] (fun _=>20) (fun _=>.cells #[.int .u64 0,.string ⟨#[]⟩,.bool false,.int .u64 0,.string ⟨#[]⟩] 36) [(true,0),(true,2),(true,1),(true,3),(true,4),(true,5),(true,6),(true,7)] (by kernel_rfl) (by kernel_rfl) zb0_ zb3_ (fun _ _ _ _ _ h=>h) (fun T Y=>?_)
 refine tk2_ ?_
 refine ck Tryz.call147 (fun w' hw=>qb9 (2) (2:Rat) _ HZ13.out om om) ?_
 refine ck Tryz.call134 (fun w' hw=>qc5 (2:Rat) st s2 _ HZ14.out om om) ?_
 refine ck Tryz.call79 (fun w' hw=>qd_ yh s2 tt _ HZ15.out (by exact HS20.out) om om) ?_
 refine tk3_ ?_
 refine qa0 (Y.out _ _ ?_)
 intro G vw11 hg hf
 simp only [puts,Act.put,lA,lB,lC,lD,lE,↓reduceIte,Nat.reduceEqDiff]
 have J:=lh_ (I.out.fr hg hf (zs:=[(#[.int .u64 0,.string ⟨#[]⟩,.bool false,.int .u64 0,.string ⟨#[]⟩],36)]) rfl (by decide) (by decide))
 simp only [zq1_,zq2_,zq3_,zq4_,lF,lG] at J
 clear Y T I hg hf lx3 lx6
 generalize G 8=gx11 at *
 have lx11:=kc4_ J;have fx11:=kf4_ J
 have r0:=Gr.refl vw11
 go_wp2
 refine kO O ?_;clear O K
 clear r0 lx11 fx11
 refine fH (((((J.out).put2 4 0 rfl).put2 4 2 rfl).put 4 4 _ rfl).er 2) fun Wx13 I=>?_
 clear J
 refine wp_seq ?_
 have lx3:=kc1_ I
 have lx10:=kc2_ I
 have lx11:=kc3_ I
 refine qS_ fun K O T Y=>?_
 refine tk2_ ?_
 refine ck Tryz.call140 (fun w' hw=>qc1 st st (0) _ (by have e9:(st) - st=(0:Rat):=xD8;exact qg6 e9) om om) ?_
 iterate 7 refine tk ?_
 refine ck Tryz.call146 (fun w' hw=>qa3 tt true _ (decide_eq_true xD8)) ?_
 refine tk3_ ?_
 refine nzR Y O (fun w2 hg=>(((I.out.gr hg).er 3).er 2).er 1) ?_;clear Y T I lx3 lx10 lx11 O K;intro Wx14 I
 refine wp_cond_false (by rfl) ?_
 refine wp_skip ?_
 show Code.wp _ _ _ _ _
 refine wp_seq ?_
 refine kSl fun K O=>?_;go_wp2
 refine kF_ O (I.out) fun Wx16 J=>?_;clear O K
 clear I;have I:=J;clear J
 refine wp_block ?_
 go_loopg [22] 3 (fun k iv wr=>∃ j:Nat,iv=.int .i64 (j:Int)∧j+k=4∧1≤j∧Hid (HP w wr [Sum.inl (gx2,36,#[.int .u64 (lo a.num.natAbs),.string (bg a.num.natAbs),.bool (a.num<0),.int .u64 (lo (a.den - 1)),.string (bg (a.den - 1))])]))
 case atStart=>exact ⟨1,rfl,rfl,Nat.le_refl _,I⟩
 case round =>
  rename_i J_ K_ h1_ h0_
  clear I
  obtain ⟨j,rfl,hjk,hj1,I⟩:=hrel
  rcases gk with _|k9
  ·refine wp_seq ?_
   have hle9:¬ (j:Int)≤3:=by omega
   refine ks2_ fun K O T Y=>?_
   refine tk2_ ?_
   refine nz Y I O ?_;clear Y T I O K;intro vw13 I
   clear hle9
   refine wp_cond_false (by rfl) ?_
   refine wp_exit ?_
   show Code.wp _ _ _ _ _
   have HB:=HPb I
   refine ks2_ fun K O T Y=>?_
   refine ck Tryz.call64 (fun w' hw=>worksd_any _ (lh_ (HT.out.gr (Gr.trans HB.out hw)))) ?_
   refine tk ?_
   refine nzR Y O (fun w2 hg=>(I.out.gr hg).er 0) ?_;clear Y T I HB O K;intro Wx23 I
   refine wp_ret ?_
   try simp only [Exit.then,Exit.inBlock]
   exact bR ⟨rfl,I.out.1⟩ qL5
  obtain ⟨o,HO⟩:∃ z,Hid (rdd (j:Int) a k=z):=⟨_,lh_ rfl⟩
  have HO2:Hid (rdd (j:Int) o k=o):=lh_ (by rw [← HO.out];exact HRR.out _)
  have hso:sz o≤20:=by rw [← HO.out];exact qb4 om om
  refine wp_seq ?_
  have hle9:(j:Int)≤3:=by omega
  refine ks2_ fun K O T Y=>?_
  refine tk2_ ?_
  refine nz Y I O ?_;clear Y T I O K;intro vw13 I
  clear hle9
  refine wp_cond_true (by rfl) ?_
  refine wp_skip ?_
  show Code.wp _ _ _ _ _
  refine wp_seq ?_
  refine wp_block ?_
  have HZ16:Hid (rdd ((j:Int)) a k=o):=lh_ (HO.out)
  have su16:sz o≤20:=by have e:=HZ16.out;first|omega|(rw [← e];exact qb4 om om)
  have lx2:=kc0_ I
  refine ks7_ fun K O T Y=>?_
  refine tk3_ ?_
  refine ck Tryz.call168 (fun w' hw=>qd9 ((j:Int)) a k o _ HZ16.out om om om om) ?_
  refine tk3_ ?_
  refine nlS Y I fun vw14 J=>?_
  clear Y T I lx2
  go_wp2
  refine kF_ O ((J.out).aL (vw14.heap.size)) fun Wx19 I=>?_;clear O K
  clear J
  generalize vw14.heap.size=gx12 at *
  have HZ17:Hid (rdd ((j:Int)) o k=o):=lh_ (HO2.out)
  have su17:sz o≤20:=by have e:=HZ17.out;first|omega|(rw [← e];exact qb4 om om)
  have lx12:=kc1_ I
  refine ks7_ fun K O T Y=>?_
  refine tk3_ ?_
  refine ck Tryz.call168 (fun w' hw=>qd9 ((j:Int)) o k o _ HZ17.out om om om om) ?_
  refine tk3_ ?_
  refine nlS Y I fun vw15 J=>?_
  clear Y T I lx12
  go_wp2
  refine kF_ O ((J.out).aL (vw15.heap.size)) fun Wx20 I=>?_;clear O K
  clear J
  generalize vw15.heap.size=gx13 at *
  have lx12:=kc1_ I
  have lx13:=kc2_ I
  refine ks7_ fun K O T Y=>?_
  iterate 7 refine tk ?_
  refine nz Y I O ?_;clear Y T I lx12 lx13 O K;intro vw16 I
  refine wp_cond_false (by rfl) ?_
  refine wp_skip ?_
  show Code.wp _ _ _ _ _
  have hwi:IntKind.i64.wrap ((j:Int)+1)=(j:Int)+1:=by rw [IntKind.wrap_i64];omega
  refine kL fun K O=>?_
  refine sq3_ fun T Y=>?_
  refine tk3_ ?_
  refine nlS Y I fun vw17 J=>?_
  clear Y T I
  go_wp2
  refine O.out _ _ ?_;clear O K
  try simp only [Exit.then,Exit.inBlock]
  have I:=lh_ (J.out);clear J
  clear hwi
  refine h0_ _ _ ?_
  go_roundg k9
  case measure=>omega
  case rel=>exact ⟨j+1,rfl,by omega,by omega,lh_ (((I.out).er 2).er 1)⟩
end Go.Proofs.YtobojnodohjiaaaGreatDoor
