
/- DecimalsTurned: all ways. -/
import Derived.Test.YtobojnodohjiaaaGreatDoorTurnD
set_option maxRecDepth 100000
set_option maxHeartbeats 16000000
set_option linter.unusedVariables false
set_option linter.unusedSimpArgs false
namespace Go.Proofs.YtobojnodohjiaaaGreatDoor
open Go.RowKit
attribute [local go_sem ↓] Go.wp_at_zero Go.wp_at_succ
attribute [local go_sem ↓] eq_nat eq_nat_zero eq_int qh7 qd0
attribute [local go_sem] Instr.field asAgg
theorem qR8 (bbxn:Bool) (vxn:Value) (kxn:Nat) (fxn:Nat→Nat) (mxn:Nat) (ixn:Int) (vxd:Value) (kxd:Nat) (fxd:Nat→Nat) (mxd:Nat) (bbyn:Bool) (vyn:Value) (kyn:Nat) (fyn:Nat→Nat) (myn:Nat) (iyn:Int) (vyd:Value) (kyd:Nat) (fyd:Nat→Nat) (myd:Nat) (a b:Rat) (m:Int) (n:Int) (w:World) (HWxn:Hid (Wa w vxn kxn fxn)) (HFxn:Hid (∀ i,i<kxn→fxn i<4294967296)) (HVxn:Hid (vl fxn kxn=mxn)) (HAxn:Hid ((if bbxn then -((mxn:Nat):Int) else ((mxn:Nat):Int))=ixn)) (HWxd:Hid (Wa w vxd kxd fxd)) (HFxd:Hid (∀ i,i<kxd→fxd i<4294967296)) (HVxd:Hid (vl fxd kxd=mxd)) (HQx:Hid (mkRat ixn (mxd+1)=a)) (HWyn:Hid (Wa w vyn kyn fyn)) (HFyn:Hid (∀ i,i<kyn→fyn i<4294967296)) (HVyn:Hid (vl fyn kyn=myn)) (HAyn:Hid ((if bbyn then -((myn:Nat):Int) else ((myn:Nat):Int))=iyn)) (HWyd:Hid (Wa w vyd kyd fyd)) (HFyd:Hid (∀ i,i<kyd→fyd i<4294967296)) (HVyd:Hid (vl fyd kyd=myd)) (HQy:Hid (mkRat iyn (myd+1)=b))  (hkxn:4<kxn) (HT:Hid (Tab w)) :
  CB 73 #[.agg #[.bool bbxn,vxn,vxd],.agg #[.bool bbyn,vyn,vyd],.int .u8 m,.int .u8 n] w (.bool true):=by
 obtain ⟨ao_xn,c_xn,rfl⟩:=HWxn.out.slice
 obtain ⟨ao_xd,c_xd,rfl⟩:=HWxd.out.slice
 obtain ⟨ao_yn,c_yn,rfl⟩:=HWyn.out.slice
 obtain ⟨ao_yd,c_yd,rfl⟩:=HWyd.out.slice
 go_enter Tryz.func73,Tryz.ntmps73
 have I:=lh_ (hp0 w)
 refine kSl fun K O=>?_;go_wp2
 refine kF_ O (al2_ I) fun Wx0 J=>?_;clear O K
 clear I;have I:=J;clear J
 generalize w.heap.size+1=gx1 at *
 refine wp_seq ?_
 have hd1:4<((kxn:Int)):=ok
 have lx0:=kc0_ I
 refine qT0 fun K O T Y=>?_
 iterate 6 refine tk ?_
 iterate 4 refine sk ?_
 refine tk2_ ?_
 iterate 5 refine sk ?_
 refine tk2_ ?_
 iterate 4 refine sk ?_
 refine tk ?_
 refine nz Y I O ?_;clear Y T I lx0 O K;intro vw1 I
 clear hd1
 refine wp_cond_true (by rfl) ?_
 have HB:=HPb I
 refine ks2_ fun K O T Y=>?_
 refine ck Tryz.call64 (fun w' hw=>worksd_any _ (lh_ (HT.out.gr (Gr.trans HB.out hw)))) ?_
 refine tk ?_
 refine nz Y I O ?_;clear Y T I HB O K;intro vw2 I
 refine wp_ret ?_
 try simp only [Exit.then,Exit.inBlock]
 exact bR ⟨rfl,I.out.1⟩ qW0
theorem qR9 (bbxn:Bool) (vxn:Value) (kxn:Nat) (fxn:Nat→Nat) (mxn:Nat) (ixn:Int) (vxd:Value) (kxd:Nat) (fxd:Nat→Nat) (mxd:Nat) (bbyn:Bool) (vyn:Value) (kyn:Nat) (fyn:Nat→Nat) (myn:Nat) (iyn:Int) (vyd:Value) (kyd:Nat) (fyd:Nat→Nat) (myd:Nat) (a b:Rat) (m:Int) (n:Int) (w:World) (HWxn:Hid (Wa w vxn kxn fxn)) (HFxn:Hid (∀ i,i<kxn→fxn i<4294967296)) (HVxn:Hid (vl fxn kxn=mxn)) (HAxn:Hid ((if bbxn then -((mxn:Nat):Int) else ((mxn:Nat):Int))=ixn)) (HWxd:Hid (Wa w vxd kxd fxd)) (HFxd:Hid (∀ i,i<kxd→fxd i<4294967296)) (HVxd:Hid (vl fxd kxd=mxd)) (HQx:Hid (mkRat ixn (mxd+1)=a)) (HWyn:Hid (Wa w vyn kyn fyn)) (HFyn:Hid (∀ i,i<kyn→fyn i<4294967296)) (HVyn:Hid (vl fyn kyn=myn)) (HAyn:Hid ((if bbyn then -((myn:Nat):Int) else ((myn:Nat):Int))=iyn)) (HWyd:Hid (Wa w vyd kyd fyd)) (HFyd:Hid (∀ i,i<kyd→fyd i<4294967296)) (HVyd:Hid (vl fyd kyd=myd)) (HQy:Hid (mkRat iyn (myd+1)=b)) (hkxn:kxn≤4) (hkxd:4<kxd) (HT:Hid (Tab w)) :
  CB 73 #[.agg #[.bool bbxn,vxn,vxd],.agg #[.bool bbyn,vyn,vyd],.int .u8 m,.int .u8 n] w (.bool true):=by
 obtain ⟨ao_xn,c_xn,rfl⟩:=HWxn.out.slice
 obtain ⟨ao_xd,c_xd,rfl⟩:=HWxd.out.slice
 obtain ⟨ao_yn,c_yn,rfl⟩:=HWyn.out.slice
 obtain ⟨ao_yd,c_yd,rfl⟩:=HWyd.out.slice
 go_enter Tryz.func73,Tryz.ntmps73
 have I:=lh_ (hp0 w)
 refine kSl fun K O=>?_;go_wp2
 refine kF_ O (al2_ I) fun Wx0 J=>?_;clear O K
 clear I;have I:=J;clear J
 generalize w.heap.size+1=gx1 at *
 refine wp_seq ?_
 have hd1:¬ (4<((kxn:Int))):=ok
 have hd2:4<((kxd:Int)):=ok
 have lx0:=kc0_ I
 refine qT0 fun K O T Y=>?_
 iterate 12 refine tk ?_
 iterate 5 refine sk ?_
 refine tk2_ ?_
 iterate 4 refine sk ?_
 refine tk ?_
 refine nz Y I O ?_;clear Y T I lx0 O K;intro vw1 I
 clear hd1 hd2
 refine wp_cond_true (by rfl) ?_
 have HB:=HPb I
 refine ks2_ fun K O T Y=>?_
 refine ck Tryz.call64 (fun w' hw=>worksd_any _ (lh_ (HT.out.gr (Gr.trans HB.out hw)))) ?_
 refine tk ?_
 refine nz Y I O ?_;clear Y T I HB O K;intro vw2 I
 refine wp_ret ?_
 try simp only [Exit.then,Exit.inBlock]
 exact bR ⟨rfl,I.out.1⟩ qW0
theorem qR_ (bbxn:Bool) (vxn:Value) (kxn:Nat) (fxn:Nat→Nat) (mxn:Nat) (ixn:Int) (vxd:Value) (kxd:Nat) (fxd:Nat→Nat) (mxd:Nat) (bbyn:Bool) (vyn:Value) (kyn:Nat) (fyn:Nat→Nat) (myn:Nat) (iyn:Int) (vyd:Value) (kyd:Nat) (fyd:Nat→Nat) (myd:Nat) (a b:Rat) (m:Int) (n:Int) (w:World) (HWxn:Hid (Wa w vxn kxn fxn)) (HFxn:Hid (∀ i,i<kxn→fxn i<4294967296)) (HVxn:Hid (vl fxn kxn=mxn)) (HAxn:Hid ((if bbxn then -((mxn:Nat):Int) else ((mxn:Nat):Int))=ixn)) (HWxd:Hid (Wa w vxd kxd fxd)) (HFxd:Hid (∀ i,i<kxd→fxd i<4294967296)) (HVxd:Hid (vl fxd kxd=mxd)) (HQx:Hid (mkRat ixn (mxd+1)=a)) (HWyn:Hid (Wa w vyn kyn fyn)) (HFyn:Hid (∀ i,i<kyn→fyn i<4294967296)) (HVyn:Hid (vl fyn kyn=myn)) (HAyn:Hid ((if bbyn then -((myn:Nat):Int) else ((myn:Nat):Int))=iyn)) (HWyd:Hid (Wa w vyd kyd fyd)) (HFyd:Hid (∀ i,i<kyd→fyd i<4294967296)) (HVyd:Hid (vl fyd kyd=myd)) (HQy:Hid (mkRat iyn (myd+1)=b)) (hkxn:kxn≤4) (hkxd:kxd≤4) (hkyn:4<kyn) (HT:Hid (Tab w)) :
  CB 73 #[.agg #[.bool bbxn,vxn,vxd],.agg #[.bool bbyn,vyn,vyd],.int .u8 m,.int .u8 n] w (.bool true):=by
 obtain ⟨ao_xn,c_xn,rfl⟩:=HWxn.out.slice
 obtain ⟨ao_xd,c_xd,rfl⟩:=HWxd.out.slice
 obtain ⟨ao_yn,c_yn,rfl⟩:=HWyn.out.slice
 obtain ⟨ao_yd,c_yd,rfl⟩:=HWyd.out.slice
 go_enter Tryz.func73,Tryz.ntmps73
 have I:=lh_ (hp0 w)
 refine kSl fun K O=>?_;go_wp2
 refine kF_ O (al2_ I) fun Wx0 J=>?_;clear O K
 clear I;have I:=J;clear J
 generalize w.heap.size+1=gx1 at *
 refine wp_seq ?_
 have hd1:¬ (4<((kxn:Int))):=ok
 have hd2:¬ (4<((kxd:Int))):=ok
 have hd3:4<((kyn:Int)):=ok
 have lx0:=kc0_ I
 have lx1:=kc1_ I
 refine qT0 fun K O T Y=>?_
 iterate 19 refine tk ?_
 iterate 4 refine sk ?_
 refine tk ?_
 refine nz Y I O ?_;clear Y T I lx0 lx1 O K;intro vw1 I
 clear hd1 hd2 hd3
 refine wp_cond_true (by rfl) ?_
 have HB:=HPb I
 refine ks2_ fun K O T Y=>?_
 refine ck Tryz.call64 (fun w' hw=>worksd_any _ (lh_ (HT.out.gr (Gr.trans HB.out hw)))) ?_
 refine tk ?_
 refine nz Y I O ?_;clear Y T I HB O K;intro vw2 I
 refine wp_ret ?_
 try simp only [Exit.then,Exit.inBlock]
 exact bR ⟨rfl,I.out.1⟩ qW0
theorem qS0 (bbxn:Bool) (vxn:Value) (kxn:Nat) (fxn:Nat→Nat) (mxn:Nat) (ixn:Int) (vxd:Value) (kxd:Nat) (fxd:Nat→Nat) (mxd:Nat) (bbyn:Bool) (vyn:Value) (kyn:Nat) (fyn:Nat→Nat) (myn:Nat) (iyn:Int) (vyd:Value) (kyd:Nat) (fyd:Nat→Nat) (myd:Nat) (a b:Rat) (m:Int) (n:Int) (w:World) (HWxn:Hid (Wa w vxn kxn fxn)) (HFxn:Hid (∀ i,i<kxn→fxn i<4294967296)) (HVxn:Hid (vl fxn kxn=mxn)) (HAxn:Hid ((if bbxn then -((mxn:Nat):Int) else ((mxn:Nat):Int))=ixn)) (HWxd:Hid (Wa w vxd kxd fxd)) (HFxd:Hid (∀ i,i<kxd→fxd i<4294967296)) (HVxd:Hid (vl fxd kxd=mxd)) (HQx:Hid (mkRat ixn (mxd+1)=a)) (HWyn:Hid (Wa w vyn kyn fyn)) (HFyn:Hid (∀ i,i<kyn→fyn i<4294967296)) (HVyn:Hid (vl fyn kyn=myn)) (HAyn:Hid ((if bbyn then -((myn:Nat):Int) else ((myn:Nat):Int))=iyn)) (HWyd:Hid (Wa w vyd kyd fyd)) (HFyd:Hid (∀ i,i<kyd→fyd i<4294967296)) (HVyd:Hid (vl fyd kyd=myd)) (HQy:Hid (mkRat iyn (myd+1)=b)) (hkxn:kxn≤4) (hkxd:kxd≤4) (hkyn:kyn≤4) (hkyd:4<kyd) (HT:Hid (Tab w)) :
  CB 73 #[.agg #[.bool bbxn,vxn,vxd],.agg #[.bool bbyn,vyn,vyd],.int .u8 m,.int .u8 n] w (.bool true):=by
 obtain ⟨ao_xn,c_xn,rfl⟩:=HWxn.out.slice
 obtain ⟨ao_xd,c_xd,rfl⟩:=HWxd.out.slice
 obtain ⟨ao_yn,c_yn,rfl⟩:=HWyn.out.slice
 obtain ⟨ao_yd,c_yd,rfl⟩:=HWyd.out.slice
 go_enter Tryz.func73,Tryz.ntmps73
 have I:=lh_ (hp0 w)
 refine kSl fun K O=>?_;go_wp2
 refine kF_ O (al2_ I) fun Wx0 J=>?_;clear O K
 clear I;have I:=J;clear J
 generalize w.heap.size+1=gx1 at *
 refine wp_seq ?_
 have hd1:¬ (4<((kxn:Int))):=ok
 have hd2:¬ (4<((kxd:Int))):=ok
 have hd3:¬ (4<((kyn:Int))):=ok
 have hd4:4<((kyd:Int)):=ok
 have lx0:=kc0_ I
 have lx1:=kc1_ I
 refine qT0 fun K O T Y=>?_
 iterate 24 refine tk ?_
 refine nz Y I O ?_;clear Y T I lx0 lx1 O K;intro vw1 I
 clear hd1 hd2 hd3 hd4
 refine wp_cond_true (by rfl) ?_
 have HB:=HPb I
 refine ks2_ fun K O T Y=>?_
 refine ck Tryz.call64 (fun w' hw=>worksd_any _ (lh_ (HT.out.gr (Gr.trans HB.out hw)))) ?_
 refine tk ?_
 refine nz Y I O ?_;clear Y T I HB O K;intro vw2 I
 refine wp_ret ?_
 try simp only [Exit.then,Exit.inBlock]
 exact bR ⟨rfl,I.out.1⟩ qW0
theorem turnd_law (bbxn:Bool) (vxn:Value) (kxn:Nat) (fxn:Nat→Nat) (vxd:Value) (kxd:Nat) (fxd:Nat→Nat) (bbyn:Bool) (vyn:Value) (kyn:Nat) (fyn:Nat→Nat) (vyd:Value) (kyd:Nat) (fyd:Nat→Nat) (m n:Int) (w:World) (HWxn:Hid (Wa w vxn kxn fxn)) (HFxn:Hid (∀ i,i<kxn→fxn i<4294967296)) (HWxd:Hid (Wa w vxd kxd fxd)) (HFxd:Hid (∀ i,i<kxd→fxd i<4294967296)) (HWyn:Hid (Wa w vyn kyn fyn)) (HFyn:Hid (∀ i,i<kyn→fyn i<4294967296)) (HWyd:Hid (Wa w vyd kyd fyd)) (HFyd:Hid (∀ i,i<kyd→fyd i<4294967296)) (hm1:0≤m) (hm2:m≤255) (hn1:0≤n) (hn2:n≤255) (HT:Hid (Tab w)) :
  CB 73 #[.agg #[.bool bbxn,vxn,vxd],.agg #[.bool bbyn,vyn,vyd],.int .u8 m,.int .u8 n] w (.bool true):=by
 obtain ⟨ixn,HAxn⟩:=ex_ ((if bbxn then -((vl fxn kxn:Nat):Int) else ((vl fxn kxn:Nat):Int)))
 obtain ⟨a,HQx⟩:=ex_ (mkRat ixn (vl fxd kxd+1))
 obtain ⟨iyn,HAyn⟩:=ex_ ((if bbyn then -((vl fyn kyn:Nat):Int) else ((vl fyn kyn:Nat):Int)))
 obtain ⟨b,HQy⟩:=ex_ (mkRat iyn (vl fyd kyd+1))
 by_cases hkxn:kxn≤4
 ·skip
  by_cases hkxd:kxd≤4
  ·skip
   by_cases hkyn:kyn≤4
   ·skip
    by_cases hkyd:kyd≤4
    ·skip
     obtain ⟨r,hr,hr2⟩:=qv0 hm1
     obtain ⟨t,ht,ht2⟩:=qv0 hn1
     by_cases hc:0<sgQ (a - b)
     ·have hab:=xG2 hc
      exact xw1 bbxn vxn kxn fxn _ ixn vxd kxd fxd _ bbyn vyn kyn fyn _ iyn vyd kyd fyd _ a b m n r t (min r t) (max r t) _ _ _ w HWxn HFxn (lh_ rfl) HAxn HWxd HFxd (lh_ rfl) HQx HWyn HFyn (lh_ rfl) HAyn HWyd HFyd (lh_ rfl) HQy hkxn hkxd hkyn hkyd hm1 hm2 hn1 hn2 (lh_ hr) (lh_ ht) om om om om (lh_ rfl) hc (lh_ hab) (lh_ rfl) (qz7 (qw_ b om)) (lh_ rfl) (qz7 (qF6 b om)) (lh_ (fun w=>qz7 (qO_ hab))) HT
     have hab:=xG6 hc
     exact xw0 bbxn vxn kxn fxn _ ixn vxd kxd fxd _ bbyn vyn kyn fyn _ iyn vyd kyd fyd _ a b m n r t (min r t) (max r t) _ _ _ w HWxn HFxn (lh_ rfl) HAxn HWxd HFxd (lh_ rfl) HQx HWyn HFyn (lh_ rfl) HAyn HWyd HFyd (lh_ rfl) HQy hkxn hkxd hkyn hkyd hm1 hm2 hn1 hn2 (lh_ hr) (lh_ ht) om om om om (lh_ rfl) hc (lh_ hab) (lh_ rfl) (qz7 (qw_ a om)) (lh_ rfl) (qz7 (qF6 a om)) (lh_ (fun w=>qz7 (qO_ hab))) HT
    exact qS0 bbxn vxn kxn fxn _ ixn vxd kxd fxd _ bbyn vyn kyn fyn _ iyn vyd kyd fyd _ a b m n w HWxn HFxn (lh_ rfl) HAxn HWxd HFxd (lh_ rfl) HQx HWyn HFyn (lh_ rfl) HAyn HWyd HFyd (lh_ rfl) HQy  hkxn hkxd hkyn om HT
   exact qR_ bbxn vxn kxn fxn _ ixn vxd kxd fxd _ bbyn vyn kyn fyn _ iyn vyd kyd fyd _ a b m n w HWxn HFxn (lh_ rfl) HAxn HWxd HFxd (lh_ rfl) HQx HWyn HFyn (lh_ rfl) HAyn HWyd HFyd (lh_ rfl) HQy  hkxn hkxd om HT
  exact qR9 bbxn vxn kxn fxn _ ixn vxd kxd fxd _ bbyn vyn kyn fyn _ iyn vyd kyd fyd _ a b m n w HWxn HFxn (lh_ rfl) HAxn HWxd HFxd (lh_ rfl) HQx HWyn HFyn (lh_ rfl) HAyn HWyd HFyd (lh_ rfl) HQy  hkxn om HT
 exact qR8 bbxn vxn kxn fxn _ ixn vxd kxd fxd _ bbyn vyn kyn fyn _ iyn vyd kyd fyd _ a b m n w HWxn HFxn (lh_ rfl) HAxn HWxd HFxd (lh_ rfl) HQx HWyn HFyn (lh_ rfl) HAyn HWyd HFyd (lh_ rfl) HQy   om HT
end Go.Proofs.YtobojnodohjiaaaGreatDoor
