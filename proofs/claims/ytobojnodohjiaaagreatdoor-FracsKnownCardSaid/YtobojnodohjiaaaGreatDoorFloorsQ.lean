
/- FracsFloors: the law's walk. -/
import Derived.Test.YtobojnodohjiaaaGreatDoorWorksQ
import Derived.Test.YtobojnodohjiaaaGreatDoorQFew1
import Derived.Test.YtobojnodohjiaaaGreatDoorFieldP
import Derived.Test.YtobojnodohjiaaaGreatDoorFPow2
import Derived.Test.YtobojnodohjiaaaGreatDoorPI
set_option maxRecDepth 100000
set_option maxHeartbeats 16000000
set_option linter.unusedVariables false
set_option linter.unusedSimpArgs false
namespace Go.Proofs.YtobojnodohjiaaaGreatDoor
open Go.RowKit
attribute [local go_sem ↓] Go.wp_at_zero Go.wp_at_succ
attribute [local go_sem ↓] eq_nat eq_nat_zero eq_int eq_frac eq_frac_zero
attribute [local go_sem] Instr.field asAgg
theorem fl_facts (a:Rat) (h:¬ a.den=1):((a.floor:Int):Rat)<a∧((a.floor:Int):Rat)+(1:Rat)=((a.ceil:Int):Rat)∧a<((a.ceil:Int):Rat)∧((a.ceil:Int):Rat) - (1:Rat)=((a.floor:Int):Rat)∧¬ ((a.floor:Int):Rat)=a∧¬ ((a.ceil:Int):Rat)=a:=by
 have n1:¬ ((a.floor:Int):Rat)=a:=fun e=>h (by rw [← e];rfl)
 have n2:¬ ((a.ceil:Int):Rat)=a:=fun e=>h (by rw [← e];rfl)
 have h1:=Rat.floor_le a
 have h3:=@Rat.le_ceil a
 have hc:a.ceil=a.floor+1:=by
  unfold Rat.ceil Rat.floor
  rw [if_neg h,if_neg h]
 have h2:((a.ceil:Int):Rat)=((a.floor:Int):Rat)+1:=by rw [hc,Rat.intCast_add];rfl
 exact ⟨Rat.lt_of_le_of_ne h1 n1,h2.symm,Rat.lt_of_le_of_ne h3 (fun e=>n2 e.symm),by rw [h2];exact Rat.add_sub_cancel,n1,n2⟩
theorem fl_whole (a:Rat) (h:a.den=1):((a.floor:Int):Rat)=a∧((a.ceil:Int):Rat)=a:=by
 have e:((a.num:Int):Rat)=a:=Rat.ext rfl h.symm
 have e1:a.floor=a.num:=by rw [Rat.floor_def,h];simp
 have e2:a.ceil=a.num:=by rw [← qw3,Rat.floor_def,Rat.neg_den,h,Rat.neg_num];simp
 rw [e1,e2];exact ⟨e,e⟩
theorem sz_fl (a:Rat) {k:Nat} (h:sz a≤k):sz (((a.floor:Int):Rat))≤k+1∧sz (((a.ceil:Int):Rat))≤k+1:=by
 have h1:=qg9 a
 have h2:=qF6 a
 rw [qB3,qB3]
 omega
theorem floorq_ws (bbxn:Bool) (vxn:Value) (kxn:Nat) (fxn:Nat→Nat) (mxn:Nat) (ixn:Int) (vxd:Value) (kxd:Nat) (fxd:Nat→Nat) (mxd:Nat) (a:Rat) (f c:Int) (p1 p2:Nat) (mb:Int) (w:World) (HWxn:Hid (Wa w vxn kxn fxn)) (HFxn:Hid (∀ i,i<kxn→fxn i<4294967296)) (HVxn:Hid (vl fxn kxn=mxn)) (HAxn:Hid ((if bbxn then -((mxn:Nat):Int) else ((mxn:Nat):Int))=ixn)) (HWxd:Hid (Wa w vxd kxd fxd)) (HFxd:Hid (∀ i,i<kxd→fxd i<4294967296)) (HVxd:Hid (vl fxd kxd=mxd)) (HQx:Hid (mkRat ixn (mxd+1)=a)) (hkxn:kxn≤10) (hkxd:kxd≤10) (HFL:Hid (a.floor=f)) (HCE:Hid (a.ceil=c)) (HLO:Hid (((f:Int):Rat)=a)) (HHI:Hid (((c:Int):Rat)=a)) (HP1:Hid (nb a.num.natAbs=p1)) (HP2:Hid (nb (a.den)=p2)) (HMB:Hid (max ((p1:Nat):Int) ((p2:Nat):Int)=mb)) (HW:Hid (a.den=1)) (hmb:¬ 64<mb)  (HT:Hid (Tab w)) :
  CB 57 #[.agg #[.bool bbxn,vxn,vxd]] w (.bool true):=by
 obtain ⟨ao_xn,c_xn,rfl⟩:=HWxn.out.slice
 obtain ⟨ao_xd,c_xd,rfl⟩:=HWxd.out.slice
 have hm_xn:wl mxn≤10:=by rw [← HVxn.out];have:=wl_le.2 (vl_lt HFxn.out);omega
 have hm_xd:wl mxd≤10:=by rw [← HVxd.out];have:=wl_le.2 (vl_lt HFxd.out);omega
 have hi_x:wl (Int.natAbs ixn)≤10:=by rw [zsize HAxn.out];exact hm_xn
 have hs_x:sz a≤11:=by rw [← HQx.out];exact sz_great hi_x hm_xd
 have hr_x:rz a≤33:=by rw [← HQx.out];exact qc2 hi_x hm_xd (by decide)
 have hmx:=HMB.out
 have hrn_:tw a.num.natAbs≤33:=Nat.le_trans (qe1 a) hr_x
 go_enter Tryz.func57,Tryz.ntmps57
 have I:=lh_ (hp0 w)
 refine kSl fun K O=>?_;go_wp2
 refine kF_ O (al1_ I) fun Wx0 J=>?_;clear O K
 clear I;have I:=J;clear J
 refine wp_seq ?_
 have lx0:=kc0_ I
 refine kS fun K O=>?_
 have HG0:Hid (Gr Wx0 Wx0):=lh_ (Gr.refl _)
 refine sq4_ fun T Y=>?_
 refine tk ?_
 refine qb5 (cs:=#[.bool bbxn,(.slice ao_xn kxn c_xn),(.slice ao_xd kxd c_xd)]) (E:=83) (n:=1) rfl (by rfl) (fun w' hw=>?_) (fun gx2 vv2 hg0 yx2 bx2=>?_)
 ·go_simp
 clear yx2
 replace HG0:=lh_ (HG0.out.trans hg0)
 have HGS:=lh_ hg0;clear hg0
 clear HGS
 have BX2:=lh_ bx2;clear bx2
 clear lx0;have lx0:=kg0_ I HG0
 simp only [Act.put,lA,lB,lC]
 refine ck Tryz.call127 (fun w' hw=>qi_ _ _ _ _ _ _ _ 10 gx2 _ (BX2.out.gr hw) om om) ?_
 refine tk ?_
 refine nzR Y O (fun w2 hg=>I.out.gr (HG0.out.trans hg)) ?_;clear Y T I HG0 BX2 lx0 O K;intro vw1 I
 refine wp_cond_false (by rfl) ?_
 refine wp_skip ?_
 show Code.wp _ _ _ _ _
 have HB:=HPb I
 have lx0:=kc0_ I
 refine ks2_ fun K O T Y=>?_
 refine tk ?_
 refine ck Tryz.call35 (fun w' hw=>qd2 bbxn kxn fxn mxn ixn kxd fxd mxd a ao_xn c_xn ao_xd c_xd w' (lh_ (HWxn.out.gr (Gr.trans HB.out hw))) HFxn HVxn HAxn (lh_ (HWxd.out.gr (Gr.trans HB.out hw))) HFxd HVxd HQx om om om om) ?_
 refine nlS Y I fun vw2 J=>?_
 clear Y T I lx0 HB
 go_wp2
 refine kF_ O ((J.out).aL (vw2.heap.size)) fun Wx3 I=>?_;clear O K
 clear J
 generalize vw2.heap.size=gx3 at *
 have HZ1:Hid (a.floor=f):=lh_ (HFL.out)
 have su1:wl f.natAbs≤12:=by have e:=HZ1.out;first|omega|(rw [← e];have:=qg9 a;omega)
 have su_0_4:wl 1≤1:=wl_le.2 (by decide +kernel)
 have HZ2:Hid (mkRat f (1)=a):=lh_ (by rw [qI4];exact HLO.out)
 have su2:sz a≤12:=by have e:=HZ2.out;first|omega|(rw [← e];exact qc3 (k:=12) om om (by decide))
 have lx3:=kc1_ I
 refine ks7_ fun K O T Y=>?_
 refine tk ?_
 refine ck Tryz.call142 (fun w' hw=>qe4 a f _ (lh_ HZ1.out) om) ?_
 refine ck Tryz.call24 (fun w' hw=>nzof 1 _ (by decide)) ?_
 refine ck Tryz.call102 (fun w' hw=>qd7 f (1) a _ (lh_ HZ2.out) (by first|exact ok|exact HW.out) om om) ?_
 refine tk3_ ?_
 refine nlS Y I fun vw3 J=>?_
 clear Y T I lx3
 go_wp2
 refine kF_ O ((J.out).aL (vw3.heap.size)) fun Wx4 I=>?_;clear O K
 clear J
 generalize vw3.heap.size=gx4 at *
 have HZ3:Hid (a.ceil=c):=lh_ (HCE.out)
 have su3:wl c.natAbs≤12:=by have e:=HZ3.out;first|omega|(rw [← e];have:=qF6 a;omega)
 have su_1_5:wl 1≤1:=wl_le.2 (by decide +kernel)
 have HZ4:Hid (mkRat c (1)=a):=lh_ (by rw [qI4];exact HHI.out)
 have su4:sz a≤12:=by have e:=HZ4.out;first|omega|(rw [← e];exact qc3 (k:=12) om om (by decide))
 have lx3:=kc1_ I
 refine ks7_ fun K O T Y=>?_
 refine tk ?_
 refine ck Tryz.call148 (fun w' hw=>qt4 a c _ (lh_ HZ3.out) om) ?_
 refine ck Tryz.call24 (fun w' hw=>nzof 1 _ (by decide)) ?_
 refine ck Tryz.call102 (fun w' hw=>qd7 c (1) a _ (lh_ HZ4.out) (by first|exact ok|exact HW.out) om om) ?_
 refine tk3_ ?_
 refine nlS Y I fun vw4 J=>?_
 clear Y T I lx3
 go_wp2
 refine kF_ O ((J.out).aL (vw4.heap.size)) fun Wx5 I=>?_;clear O K
 clear J
 generalize vw4.heap.size=gx5 at *
 have lx3:=kc1_ I
 refine ks3_ fun K O T Y=>?_
 refine tk ?_
 refine ck Tryz.call146 (fun w' hw=>qa4 a true _ (decide_eq_true (by first|exact ok|exact HW.out))) ?_
 refine tk ?_
 refine nz Y I O ?_;clear Y T I lx3 O K;intro vw5 I
 have HB:=HPb I
 have lx0:=kc0_ I
 refine kS fun K O=>?_
 have HG0:Hid (Gr vw5 vw5):=lh_ (Gr.refl _)
 refine qY4 fun T Y=>?_
 refine tk ?_
 refine ce2 Tryz.call128 HG0 (fun w' hw=>(qf9 bbxn kxn fxn mxn ixn kxd fxd mxd a ao_xn c_xn ao_xd c_xd w' (lh_ (HWxn.out.gr (Gr.trans HB.out hw))) HFxn HVxn HAxn (lh_ (HWxd.out.gr (Gr.trans HB.out hw))) HFxd HVxd HQx om om om om)) ?_;clear HG0;intro vv6 HG0 HGS ao1 nn1 cc1 ao2 nn2 cc2 RN6 RN7
 replace HB:=lh_ (HB.out.trans (HGS.out.mono HB.out.size))
 clear HGS
 clear lx0;have lx0:=fun w' (h:Gr _ w')=>kc0_ I w' (HG0.out.trans h)
 refine wpPlan_nil (Y.out _ _ ?_)
 intro vw6 hg
 simp only [puts,Act.put,lA,lB,lC,lD,lE,↓reduceIte,Nat.reduceEqDiff]
 have J:=lh_ (((I.out.gr (HG0.out.trans hg)).ar (RN6.out.gr hg)).ar (RN7.out.gr hg))
 simp only [zq1_,zq2_,zq3_,zq4_,lF,lG] at J
 clear Y T I hg HG0 RN6 RN7 lx0 HB
 go_wp2
 refine kF_ O (((J.out).aL (vw6.heap.size)).er 0) fun Wx7 I=>?_;clear O K
 clear J
 generalize vw6.heap.size=gx8 at *
 refine wp_seq ?_
 have HZ5:Hid (a.den=(a).den):=lh_ (rfl)
 have su5:tw (a.den)≤33:=by exact Nat.le_trans (qc8 _) om
 have lx8:=kc5_ I
 refine kS fun K O=>?_
 have HG0:Hid (Gr Wx7 Wx7):=lh_ (Gr.refl _)
 refine pd4_ fun T Y=>?_
 iterate 4 refine tk ?_
 refine ck Tryz.call149 (fun w' hw=>qK2 _ a.num.natAbs p1 _ HP1.out (I.out.r 3 rfl (HG0.out.trans hw)) om) ?_
 refine ce1 Tryz.call150 HG0 (fun w' hw=>qg7 a (a.den) _ _ _ HZ5.out om (I.out.r 3 rfl (HG0.out.trans hw)) (I.out.r 4 rfl (HG0.out.trans hw))) ?_;clear HG0;intro vv9 HG0 _ ao3 nn3 cc3 RN9
 clear lx8;have lx8:=fun w' (h:Gr _ w')=>kc5_ I w' (HG0.out.trans h)
 refine ck Tryz.call149 (fun w' hw=>qK2 _ (a.den) p2 _ HP2.out (RN9.out.gr hw) om) ?_
 refine tk ?_
 refine wpPlan_nil (Y.out _ _ ?_)
 intro G vw7 hg hf
 simp only [puts,Act.put,lA,lB,lC,lD,lE,↓reduceIte,Nat.reduceEqDiff]
 have J:=lh_ ((I.out.gr (HG0.out.trans hg)).ar (RN9.out.gr hg))
 simp only [zq1_,zq2_,zq3_,zq4_,lF,lG] at J
 clear Y T I hg hf HG0 RN9 lx8
 have hd1:¬ (64<mb):=by first|exact ok|exact HW.out
 go_wp2
 refine kF_ O (((((J.out).er 6).er 5).er 4).er 3) fun Wx8 I=>?_;clear O K
 clear J
 clear hd1
 refine wp_cond_false (by rfl) ?_
 refine wp_skip ?_
 show Code.wp _ _ _ _ _
 have HB:=HPb I
 have HZ6:Hid (((1:Int):Rat)=(1:Rat)):=lh_ (by decide +kernel)
 have su6:sz ((1:Rat))≤2:=sz_of (wl_le.2 (by decide +kernel)) (wl_le.2 (by decide +kernel))
 obtain ⟨u7,HZ7⟩:=ex_ (a+(1:Rat))
 have su7:sz u7≤15:=by rw [← HZ7.out];have:=qc9 a (1:Rat);omega
 have HZ8:Hid (((1:Int):Rat)=(1:Rat)):=lh_ (by decide +kernel)
 have su8:sz ((1:Rat))≤2:=sz_of (wl_le.2 (by decide +kernel)) (wl_le.2 (by decide +kernel))
 obtain ⟨u9,HZ9⟩:=ex_ (a - (1:Rat))
 have su9:sz u9≤15:=by rw [← HZ9.out];have:=qr2 a (1:Rat);omega
 have lx3:=kc0_ I
 have lx4:=kc1_ I
 have lx5:=kc2_ I
 refine kS fun K O=>?_
 refine pd5_ fun T Y=>?_
 refine tk2_ ?_
 refine ck Tryz.call140 (fun w' hw=>qa3 a a (0) _ (by have e9:(a) - a=(0:Rat):=(by exact Rat.sub_self);exact qh5 e9) om om) ?_
 iterate 4 refine tk ?_
 refine ck Tryz.call147 (fun w' hw=>fint_any (1) (1:Rat) _ HZ6.out om om) ?_
 refine ck Tryz.call130 (fun w' hw=>qa_ a (1:Rat) u7 _ HZ7.out om om) ?_
 refine ck Tryz.call140 (fun w' hw=>qa3 u7 a (1) _ (by have e9:(0:Rat)<(u7) - (a):=(by simp only [← HZ7.out];exact qx_ (by grind));exact qp8 e9) om om) ?_
 iterate 5 refine tk ?_
 refine ck Tryz.call140 (fun w' hw=>qa3 a a (0) _ (by have e9:(a) - a=(0:Rat):=(by exact Rat.sub_self);exact qh5 e9) om om) ?_
 iterate 5 refine tk ?_
 refine ck Tryz.call147 (fun w' hw=>fint_any (1) (1:Rat) _ HZ8.out om om) ?_
 refine ck Tryz.call132 (fun w' hw=>qg5 a (1:Rat) u9 _ HZ9.out om om) ?_
 refine ck Tryz.call140 (fun w' hw=>qa3 u9 a (-1) _ (by have e9:(u9) - a<(0:Rat):=(by simp only [← HZ9.out,← HZ7.out];exact qx9 (by grind));exact qk0 e9) om om) ?_
 iterate 17 refine tk ?_
 refine ck Tryz.call62 (fun w' hw=>worksq_any _ (lh_ (HT.out.gr (Gr.trans HB.out hw)))) ?_
 refine tk ?_
 refine nlD Y I fun vw8 J=>?_
 clear Y T I lx3 lx4 lx5 HB
 go_wp2
 refine kF_ O ((((J.out).er 2).er 1).er 0) fun Wx13 I=>?_;clear O K
 clear J
 refine wp_ret ?_
 try simp only [Exit.then,Exit.inBlock]
 exact bR ⟨rfl,I.out.1⟩ (by simp [results,Tryz.results57,go_sem])
theorem floorq_ns (bbxn:Bool) (vxn:Value) (kxn:Nat) (fxn:Nat→Nat) (mxn:Nat) (ixn:Int) (vxd:Value) (kxd:Nat) (fxd:Nat→Nat) (mxd:Nat) (a:Rat) (f c:Int) (p1 p2:Nat) (mb:Int) (lo hi:Rat) (w:World) (HWxn:Hid (Wa w vxn kxn fxn)) (HFxn:Hid (∀ i,i<kxn→fxn i<4294967296)) (HVxn:Hid (vl fxn kxn=mxn)) (HAxn:Hid ((if bbxn then -((mxn:Nat):Int) else ((mxn:Nat):Int))=ixn)) (HWxd:Hid (Wa w vxd kxd fxd)) (HFxd:Hid (∀ i,i<kxd→fxd i<4294967296)) (HVxd:Hid (vl fxd kxd=mxd)) (HQx:Hid (mkRat ixn (mxd+1)=a)) (hkxn:kxn≤10) (hkxd:kxd≤10) (HFL:Hid (a.floor=f)) (HCE:Hid (a.ceil=c)) (HLO:Hid (((f:Int):Rat)=lo)) (HHI:Hid (((c:Int):Rat)=hi)) (HP1:Hid (nb a.num.natAbs=p1)) (HP2:Hid (nb (a.den)=p2)) (HMB:Hid (max ((p1:Nat):Int) ((p2:Nat):Int)=mb)) (HW:Hid (¬ (a.den=1))) (hmb:¬ 64<mb) (HL1:Hid (lo<a)) (HL2:Hid (lo+(1:Rat)=hi)) (HL3:Hid (a<hi)) (HL4:Hid (hi - (1:Rat)=lo)) (HL5:Hid (¬ lo=a)) (HL6:Hid (¬ hi=a)) (hslo:sz lo≤20) (hshi:sz hi≤20)  (HT:Hid (Tab w)) :
  CB 57 #[.agg #[.bool bbxn,vxn,vxd]] w (.bool true):=by
 obtain ⟨ao_xn,c_xn,rfl⟩:=HWxn.out.slice
 obtain ⟨ao_xd,c_xd,rfl⟩:=HWxd.out.slice
 have hm_xn:wl mxn≤10:=by rw [← HVxn.out];have:=wl_le.2 (vl_lt HFxn.out);omega
 have hm_xd:wl mxd≤10:=by rw [← HVxd.out];have:=wl_le.2 (vl_lt HFxd.out);omega
 have hi_x:wl (Int.natAbs ixn)≤10:=by rw [zsize HAxn.out];exact hm_xn
 have hs_x:sz a≤11:=by rw [← HQx.out];exact sz_great hi_x hm_xd
 have hr_x:rz a≤33:=by rw [← HQx.out];exact qc2 hi_x hm_xd (by decide)
 have hmx:=HMB.out
 have hrn_:tw a.num.natAbs≤33:=Nat.le_trans (qe1 a) hr_x
 go_enter Tryz.func57,Tryz.ntmps57
 have I:=lh_ (hp0 w)
 refine kSl fun K O=>?_;go_wp2
 refine kF_ O (al1_ I) fun Wx0 J=>?_;clear O K
 clear I;have I:=J;clear J
 refine wp_seq ?_
 have lx0:=kc0_ I
 refine kS fun K O=>?_
 have HG0:Hid (Gr Wx0 Wx0):=lh_ (Gr.refl _)
 refine sq4_ fun T Y=>?_
 refine tk ?_
 refine qb5 (cs:=#[.bool bbxn,(.slice ao_xn kxn c_xn),(.slice ao_xd kxd c_xd)]) (E:=83) (n:=1) rfl (by rfl) (fun w' hw=>?_) (fun gx2 vv2 hg0 yx2 bx2=>?_)
 ·go_simp
 clear yx2
 replace HG0:=lh_ (HG0.out.trans hg0)
 have HGS:=lh_ hg0;clear hg0
 clear HGS
 have BX2:=lh_ bx2;clear bx2
 clear lx0;have lx0:=kg0_ I HG0
 simp only [Act.put,lA,lB,lC]
 refine ck Tryz.call127 (fun w' hw=>qi_ _ _ _ _ _ _ _ 10 gx2 _ (BX2.out.gr hw) om om) ?_
 refine tk ?_
 refine nzR Y O (fun w2 hg=>I.out.gr (HG0.out.trans hg)) ?_;clear Y T I HG0 BX2 lx0 O K;intro vw1 I
 refine wp_cond_false (by rfl) ?_
 refine wp_skip ?_
 show Code.wp _ _ _ _ _
 have HB:=HPb I
 have lx0:=kc0_ I
 refine ks2_ fun K O T Y=>?_
 refine tk ?_
 refine ck Tryz.call35 (fun w' hw=>qd2 bbxn kxn fxn mxn ixn kxd fxd mxd a ao_xn c_xn ao_xd c_xd w' (lh_ (HWxn.out.gr (Gr.trans HB.out hw))) HFxn HVxn HAxn (lh_ (HWxd.out.gr (Gr.trans HB.out hw))) HFxd HVxd HQx om om om om) ?_
 refine nlS Y I fun vw2 J=>?_
 clear Y T I lx0 HB
 go_wp2
 refine kF_ O ((J.out).aL (vw2.heap.size)) fun Wx3 I=>?_;clear O K
 clear J
 generalize vw2.heap.size=gx3 at *
 have HZ1:Hid (a.floor=f):=lh_ (HFL.out)
 have su1:wl f.natAbs≤12:=by have e:=HZ1.out;first|omega|(rw [← e];have:=qg9 a;omega)
 have su_0_4:wl 1≤1:=wl_le.2 (by decide +kernel)
 have HZ2:Hid (mkRat f (1)=lo):=lh_ (by rw [qI4];exact HLO.out)
 have su2:sz lo≤12:=by have e:=HZ2.out;first|omega|(rw [← e];exact qc3 (k:=12) om om (by decide))
 have lx3:=kc1_ I
 refine ks7_ fun K O T Y=>?_
 refine tk ?_
 refine ck Tryz.call142 (fun w' hw=>qe4 a f _ (lh_ HZ1.out) om) ?_
 refine ck Tryz.call24 (fun w' hw=>nzof 1 _ (by decide)) ?_
 refine ck Tryz.call102 (fun w' hw=>qd7 f (1) lo _ (lh_ HZ2.out) qG3 om om) ?_
 refine tk3_ ?_
 refine nlS Y I fun vw3 J=>?_
 clear Y T I lx3
 go_wp2
 refine kF_ O ((J.out).aL (vw3.heap.size)) fun Wx4 I=>?_;clear O K
 clear J
 generalize vw3.heap.size=gx4 at *
 have HZ3:Hid (a.ceil=c):=lh_ (HCE.out)
 have su3:wl c.natAbs≤12:=by have e:=HZ3.out;first|omega|(rw [← e];have:=qF6 a;omega)
 have su_1_5:wl 1≤1:=wl_le.2 (by decide +kernel)
 have HZ4:Hid (mkRat c (1)=hi):=lh_ (by rw [qI4];exact HHI.out)
 have su4:sz hi≤12:=by have e:=HZ4.out;first|omega|(rw [← e];exact qc3 (k:=12) om om (by decide))
 have lx3:=kc1_ I
 refine ks7_ fun K O T Y=>?_
 refine tk ?_
 refine ck Tryz.call148 (fun w' hw=>qt4 a c _ (lh_ HZ3.out) om) ?_
 refine ck Tryz.call24 (fun w' hw=>nzof 1 _ (by decide)) ?_
 refine ck Tryz.call102 (fun w' hw=>qd7 c (1) hi _ (lh_ HZ4.out) qG3 om om) ?_
 refine tk3_ ?_
 refine nlS Y I fun vw4 J=>?_
 clear Y T I lx3
 go_wp2
 refine kF_ O ((J.out).aL (vw4.heap.size)) fun Wx5 I=>?_;clear O K
 clear J
 generalize vw4.heap.size=gx5 at *
 have lx3:=kc1_ I
 refine ks3_ fun K O T Y=>?_
 refine tk ?_
 refine ck Tryz.call146 (fun w' hw=>qa4 a false _ (decide_eq_false qG3)) ?_
 refine tk ?_
 refine nz Y I O ?_;clear Y T I lx3 O K;intro vw5 I
 have HB:=HPb I
 have lx0:=kc0_ I
 refine kS fun K O=>?_
 have HG0:Hid (Gr vw5 vw5):=lh_ (Gr.refl _)
 refine qY4 fun T Y=>?_
 refine tk ?_
 refine ce2 Tryz.call128 HG0 (fun w' hw=>(qf9 bbxn kxn fxn mxn ixn kxd fxd mxd a ao_xn c_xn ao_xd c_xd w' (lh_ (HWxn.out.gr (Gr.trans HB.out hw))) HFxn HVxn HAxn (lh_ (HWxd.out.gr (Gr.trans HB.out hw))) HFxd HVxd HQx om om om om)) ?_;clear HG0;intro vv6 HG0 HGS ao1 nn1 cc1 ao2 nn2 cc2 RN6 RN7
 replace HB:=lh_ (HB.out.trans (HGS.out.mono HB.out.size))
 clear HGS
 clear lx0;have lx0:=fun w' (h:Gr _ w')=>kc0_ I w' (HG0.out.trans h)
 refine wpPlan_nil (Y.out _ _ ?_)
 intro vw6 hg
 simp only [puts,Act.put,lA,lB,lC,lD,lE,↓reduceIte,Nat.reduceEqDiff]
 have J:=lh_ (((I.out.gr (HG0.out.trans hg)).ar (RN6.out.gr hg)).ar (RN7.out.gr hg))
 simp only [zq1_,zq2_,zq3_,zq4_,lF,lG] at J
 clear Y T I hg HG0 RN6 RN7 lx0 HB
 go_wp2
 refine kF_ O (((J.out).aL (vw6.heap.size)).er 0) fun Wx7 I=>?_;clear O K
 clear J
 generalize vw6.heap.size=gx8 at *
 refine wp_seq ?_
 have HZ5:Hid (a.den=(a).den):=lh_ (rfl)
 have su5:tw (a.den)≤33:=by exact Nat.le_trans (qc8 _) om
 have lx8:=kc5_ I
 refine kS fun K O=>?_
 have HG0:Hid (Gr Wx7 Wx7):=lh_ (Gr.refl _)
 refine pd4_ fun T Y=>?_
 iterate 4 refine tk ?_
 refine ck Tryz.call149 (fun w' hw=>qK2 _ a.num.natAbs p1 _ HP1.out (I.out.r 3 rfl (HG0.out.trans hw)) om) ?_
 refine ce1 Tryz.call150 HG0 (fun w' hw=>qg7 a (a.den) _ _ _ HZ5.out om (I.out.r 3 rfl (HG0.out.trans hw)) (I.out.r 4 rfl (HG0.out.trans hw))) ?_;clear HG0;intro vv9 HG0 _ ao3 nn3 cc3 RN9
 clear lx8;have lx8:=fun w' (h:Gr _ w')=>kc5_ I w' (HG0.out.trans h)
 refine ck Tryz.call149 (fun w' hw=>qK2 _ (a.den) p2 _ HP2.out (RN9.out.gr hw) om) ?_
 refine tk ?_
 refine wpPlan_nil (Y.out _ _ ?_)
 intro G vw7 hg hf
 simp only [puts,Act.put,lA,lB,lC,lD,lE,↓reduceIte,Nat.reduceEqDiff]
 have J:=lh_ ((I.out.gr (HG0.out.trans hg)).ar (RN9.out.gr hg))
 simp only [zq1_,zq2_,zq3_,zq4_,lF,lG] at J
 clear Y T I hg hf HG0 RN9 lx8
 have hd1:¬ (64<mb):=by first|exact ok|exact HW.out|exact HL5.out|exact HL6.out|exact HL2.out|exact HL4.out
 go_wp2
 refine kF_ O (((((J.out).er 6).er 5).er 4).er 3) fun Wx8 I=>?_;clear O K
 clear J
 clear hd1
 refine wp_cond_false (by rfl) ?_
 refine wp_skip ?_
 show Code.wp _ _ _ _ _
 have HB:=HPb I
 have HZ6:Hid (((1:Int):Rat)=(1:Rat)):=lh_ (by decide +kernel)
 have su6:sz ((1:Rat))≤2:=sz_of (wl_le.2 (by decide +kernel)) (wl_le.2 (by decide +kernel))
 have HZ7:Hid (lo+(1:Rat)=hi):=lh_ qG3
 have su7:sz hi≤15:=by have e:=HZ7.out;first|omega|(rw [← e];have:=qc9 lo (1:Rat);omega)
 have HZ8:Hid (((1:Int):Rat)=(1:Rat)):=lh_ (by decide +kernel)
 have su8:sz ((1:Rat))≤2:=sz_of (wl_le.2 (by decide +kernel)) (wl_le.2 (by decide +kernel))
 have HZ9:Hid (hi - (1:Rat)=lo):=lh_ qG3
 have su9:sz lo≤15:=by have e:=HZ9.out;first|omega|(rw [← e];have:=qr2 hi (1:Rat);omega)
 have hd2:decide (lo=a)=false:=decide_eq_false qG3
 have hd3:decide (hi=a)=false:=decide_eq_false qG3
 have lx3:=kc0_ I
 have lx4:=kc1_ I
 have lx5:=kc2_ I
 refine kS fun K O=>?_
 refine pd5_ fun T Y=>?_
 refine tk2_ ?_
 refine ck Tryz.call140 (fun w' hw=>qa3 lo a (-1) _ (by have e9:(lo) - a<(0:Rat):=(by exact qx9 HL1.out);exact qk0 e9) om om) ?_
 iterate 4 refine tk ?_
 refine ck Tryz.call147 (fun w' hw=>fint_any (1) (1:Rat) _ HZ6.out om om) ?_
 refine ck Tryz.call130 (fun w' hw=>qa_ lo (1:Rat) hi _ HZ7.out om om) ?_
 refine ck Tryz.call140 (fun w' hw=>qa3 hi a (1) _ (by have e9:(0:Rat)<(hi) - (a):=(by exact qx_ HL3.out);exact qp8 e9) om om) ?_
 iterate 5 refine tk ?_
 refine ck Tryz.call140 (fun w' hw=>qa3 hi a (1) _ (by have e9:(0:Rat)<(hi) - (a):=(by exact qx_ HL3.out);exact qp8 e9) om om) ?_
 iterate 5 refine tk ?_
 refine ck Tryz.call147 (fun w' hw=>fint_any (1) (1:Rat) _ HZ8.out om om) ?_
 refine ck Tryz.call132 (fun w' hw=>qg5 hi (1:Rat) lo _ HZ9.out om om) ?_
 refine ck Tryz.call140 (fun w' hw=>qa3 lo a (-1) _ (by have e9:(lo) - a<(0:Rat):=(by exact qx9 HL1.out);exact qk0 e9) om om) ?_
 iterate 17 refine tk ?_
 refine ck Tryz.call62 (fun w' hw=>worksq_any _ (lh_ (HT.out.gr (Gr.trans HB.out hw)))) ?_
 refine tk ?_
 refine nlD Y I fun vw8 J=>?_
 clear Y T I lx3 lx4 lx5 HB
 go_wp2
 refine kF_ O ((((J.out).er 2).er 1).er 0) fun Wx13 I=>?_;clear O K
 clear J
 clear hd2 hd3
 refine wp_ret ?_
 try simp only [Exit.then,Exit.inBlock]
 exact bR ⟨rfl,I.out.1⟩ (by simp [results,Tryz.results57,go_sem])
end Go.Proofs.YtobojnodohjiaaaGreatDoor
