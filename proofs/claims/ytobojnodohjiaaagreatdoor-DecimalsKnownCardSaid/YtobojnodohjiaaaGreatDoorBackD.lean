
/- DecimalsBack: the law's walk. -/
import Derived.Test.YtobojnodohjiaaaGreatDoorBackD0
import Derived.Test.YtobojnodohjiaaaGreatDoorSgnP
import Derived.Test.YtobojnodohjiaaaGreatDoorPlanQ
set_option maxRecDepth 100000
set_option maxHeartbeats 16000000
set_option linter.unusedVariables false
set_option linter.unusedSimpArgs false
namespace Go.Proofs.YtobojnodohjiaaaGreatDoor
open Go.RowKit
attribute [local go_sem ↓] Go.wp_at_zero Go.wp_at_succ
attribute [local go_sem ↓] eq_nat eq_nat_zero eq_int qh7 qd0
attribute [local go_sem] Instr.field asAgg
theorem qQ9 (bbxn:Bool) (vxn:Value) (kxn:Nat) (fxn:Nat→Nat) (mxn:Nat) (ixn:Int) (vxd:Value) (kxd:Nat) (fxd:Nat→Nat) (mxd:Nat) (a:Rat) (n wy:Int) (k j:Nat) (v:Int) (y:Rat) (s:ByteArray) (w:World) (HWxn:Hid (Wa w vxn kxn fxn)) (HFxn:Hid (∀ i,i<kxn→fxn i<4294967296)) (HVxn:Hid (vl fxn kxn=mxn)) (HAxn:Hid ((if bbxn then -((mxn:Nat):Int) else ((mxn:Nat):Int))=ixn)) (HWxd:Hid (Wa w vxd kxd fxd)) (HFxd:Hid (∀ i,i<kxd→fxd i<4294967296)) (HVxd:Hid (vl fxd kxd=mxd)) (HQx:Hid (mkRat ixn (mxd+1)=a)) (hkxn:kxn≤5) (hkxd:kxd≤5) (hm1:0≤n) (hm2:n≤255) (hn1:0≤wy) (hn2:wy≤255) (HMk:Hid (Int.tmod n 101=(k:Int))) (hk:k≤100) (HMj:Hid (Int.tmod wy 3=(j:Int))) (hj:j≤2) (HV:Hid (1+(j:Int)=v)) (hv1:1≤v) (hv2:v≤3) (HY:Hid (rdd v a k=y)) (hsy:sz y≤30) (HS:Hid (dtx (rnd v (a*(((10 ^ k:Nat):Int):Rat))) k=s)) (HPN:Hid (dnum s=y)) (HPC:Hid (qg0 s=0)) (hs1:s.size≤4000) (h00:0<s.size) (HSGN:Hid ((y<0∧byt s 0=45)∨(¬ y<0∧byt s 0≠45))) (HK0:Hid (k=0→(y).den=1∧ftx y=s)) (HKP:Hid (0<k→k+1<s.size∧byt s (s.size - k - 1)=46)) (HT:Hid (Tab w)) :
  CB 71 #[.agg #[.bool bbxn,vxn,vxd],.int .u8 n,.int .u8 wy] w (.bool true):=by
 obtain ⟨ao_xn,c_xn,rfl⟩:=HWxn.out.slice
 obtain ⟨ao_xd,c_xd,rfl⟩:=HWxd.out.slice
 have hm_xn:wl mxn≤5:=by rw [← HVxn.out];have:=qa2.2 (qe3 HFxn.out);omega
 have hm_xd:wl mxd≤5:=by rw [← HVxd.out];have:=qa2.2 (qe3 HFxd.out);omega
 have hi_x:wl (Int.natAbs ixn)≤5:=by rw [qo9 HAxn.out];exact hm_xn
 have hs_x:sz a≤6:=by rw [← HQx.out];exact qe6 hi_x hm_xd
 have hr_x:rz a≤18:=by rw [← HQx.out];exact qf_ hi_x hm_xd (by decide)
 have hwn:IntKind.i64.wrap n=n:=by rw [IntKind.wrap_i64];omega
 have hwy:IntKind.i64.wrap wy=wy:=by rw [IntKind.wrap_i64];omega
 go_enter Tryz.func71,Tryz.ntmps71
 have I:=lh_ (hp0 w)
 refine kSl fun K O=>?_;go_wp2
 refine kF_ O (al1_ I) fun Wx0 J=>?_;clear O K
 clear I;have I:=J;clear J
 refine wp_seq ?_
 have hd1:¬ (5<((kxn:Int))):=ok
 have hd2:¬ (5<((kxd:Int))):=ok
 have lx0:=kc0_ I
 refine qh4 fun K O T Y=>?_
 iterate 11 refine tk ?_
 refine nz Y I O ?_;clear Y T I lx0 O K;intro vw1 I
 clear hd1 hd2
 refine wp_cond_false (by rfl) ?_
 refine wp_skip ?_
 show Code.wp _ _ _ _ _
 have hrmk_2:Int.tmod n 101=(k:Int):=HMk.out
 have hrmj:Int.tmod wy 3=(j:Int):=HMj.out
 have hwv:IntKind.i64.wrap (1+(j:Int))=v:=by have e9:=HV.out;rw [IntKind.wrap_i64];omega
 refine ks9_ fun K O T Y=>?_
 iterate 9 refine tk ?_
 refine nz Y I O ?_;clear Y T I O K;intro vw2 I
 clear hrmk_2 hrmj hwv
 have HB:=HPb I
 have HZ1:Hid (rdd v a k=y):=lh_ (HY.out)
 have su1:sz y≤30:=by have e:=HZ1.out;first|omega|(rw [← e];exact qb4 om om)
 have lx0:=kc0_ I
 refine ks8_ fun K O T Y=>?_
 refine tk ?_
 refine ck Tryz.call35 (fun w' hw=>qf9 bbxn kxn fxn mxn ixn kxd fxd mxd a ao_xn c_xn ao_xd c_xd w' (lh_ (HWxn.out.gr (Gr.trans HB.out hw))) HFxn HVxn HAxn (lh_ (HWxd.out.gr (Gr.trans HB.out hw))) HFxd HVxd HQx om om om om) ?_
 refine tk2_ ?_
 refine ck Tryz.call168 (fun w' hw=>qd9 v a k y _ HZ1.out om om om om) ?_
 refine tk3_ ?_
 refine nlS Y I fun vw3 J=>?_
 clear Y T I lx0 HB
 go_wp2
 refine kF_ O ((J.out).aL (vw3.heap.size)) fun Wx4 I=>?_;clear O K
 clear J
 generalize vw3.heap.size=gx2 at *
 have HB:=HPb I
 have lx0:=kc0_ I
 refine qy5 fun K O T Y=>?_
 refine tk ?_
 refine ck Tryz.call35 (fun w' hw=>qf9 bbxn kxn fxn mxn ixn kxd fxd mxd a ao_xn c_xn ao_xd c_xd w' (lh_ (HWxn.out.gr (Gr.trans HB.out hw))) HFxn HVxn HAxn (lh_ (HWxd.out.gr (Gr.trans HB.out hw))) HFxd HVxd HQx om om om om) ?_
 refine tk2_ ?_
 refine ck Tryz.call170 (fun w' hw=>xv9 v a k s _ (HS.out) om om om om (lh_ (HT.out.gr (Gr.trans HB.out hw)))) ?_
 iterate 5 refine tk ?_
 refine nzR Y O (fun w2 hg=>(I.out.gr hg).er 0) ?_;clear Y T I lx0 HB O K;intro Wx5 I
 refine ks5_ fun K O T Y=>?_
 refine tk ?_
 refine ck Tryz.call63 (fun w' hw=>qE2 s y (0) _ HPN.out HPC.out om) ?_
 refine tk3_ ?_
 refine nlS Y I fun vw5 J=>?_
 clear Y T I
 go_wp2
 refine kF_ O ((J.out).aL (vw5.heap.size)) fun Wx6 I=>?_;clear O K
 clear J
 generalize vw5.heap.size=gx3 at *
 refine wp_seq ?_
 rcases HSGN.out with ⟨hyn,hb0⟩|⟨hyn,hb0⟩
 ·have HYN:=lh_ hyn
  have hb:(s[0]'h00).toNat=45:=by rw [qe4 h00,hb0]
  clear hyn hb0
  have hs0:((s.size:Int) == 0)=false:=by have h9:¬ ((s.size:Int)=0):=om;simpa using h9
  have lx2:=kc0_ I
  have lx3:=kc1_ I
  refine kS fun K O=>?_
  refine pd0_ fun T Y=>?_
  iterate 25 refine tk ?_
  refine ck Tryz.call139 (fun w' hw=>qh8 y (-1) _ (by have e9:(y)<(0:Rat):=(by exact HYN.out);exact ql2 e9)) ?_
  refine tk2_ ?_
  refine nlD Y I fun vw6 J=>?_
  clear Y T I lx2 lx3
  go_wp2
  refine kF_ O ((J.out).er 1) fun Wx7 I=>?_;clear O K
  clear J
  clear hs0
  refine wp_cond_false (by rfl) ?_
  refine wp_skip ?_
  show Code.wp _ _ _ _ _
  refine wp_seq ?_
  rcases Nat.eq_zero_or_pos k with hk0|hk0
  ·obtain ⟨hd,ht⟩:=HK0.out hk0
   have HK:=lh_ hk0
   have HYD:=lh_ hd
   have HFT:=lh_ ht
   clear hd ht hk0
   have hkz:((k:Int) == 0)=true:=by have h9:=HK.out;simp [h9]
   refine ks2_ fun K O T Y=>?_
   refine tk2_ ?_
   refine nz Y I O ?_;clear Y T I O K;intro vw7 I
   clear hkz
   refine wp_cond_true (by rfl) ?_
   have HB:=HPb I
   have hd3:(s.toList == s.toList)=true:=by simp
   have lx2:=kc0_ I
   refine qw4 fun K O T Y=>?_
   refine tk ?_
   refine ck Tryz.call146 (fun w' hw=>qa3 y true _ (decide_eq_true (by exact HYD.out))) ?_
   refine tk3_ ?_
   refine ck Tryz.call153 (fun w' hw=>xh8 y s _ HFT.out om (lh_ (HT.out.gr (Gr.trans HB.out hw)))) ?_
   refine tk3_ ?_
   refine ck Tryz.call64 (fun w' hw=>worksd_any _ (lh_ (HT.out.gr (Gr.trans HB.out hw)))) ?_
   refine tk2_ ?_
   refine nzR Y O (fun w2 hg=>(I.out.gr hg).er 0) ?_;clear Y T I lx2 HB O K;intro Wx10 I
   clear hd3
   refine wp_ret ?_
   try simp only [Exit.then,Exit.inBlock]
   exact bR ⟨rfl,I.out.1⟩ qW1
  obtain ⟨h1,h2⟩:=HKP.out hk0
  obtain ⟨e2,he⟩:∃ e2,s.size=e2+1+k:=⟨s.size - k - 1,by omega⟩
  have he2:e2<s.size:=by omega
  have hb2:(s[e2]'he2).toNat=46:=by rw [qe4 he2,← h2];congr 1;omega
  have HE:=lh_ he
  have HKB:=lh_ h1
  have HKP0:=lh_ hk0
  clear h1 h2 he hk0
  have hkz:((k:Int) == 0)=false:=by have h9:¬ ((k:Int)=0):=(by have:=HKP0.out;omega);simpa using h9
  refine ks2_ fun K O T Y=>?_
  refine tk2_ ?_
  refine nz Y I O ?_;clear Y T I O K;intro vw7 I
  clear hkz
  refine wp_cond_false (by rfl) ?_
  refine wp_skip ?_
  show Code.wp _ _ _ _ _
  have HB:=HPb I
  have hwk:IntKind.i64.wrap ((k:Int)+1)=(k:Int)+1:=by rw [IntKind.wrap_i64];omega
  have hgt:(k:Int)+1<(s.size:Int):=by have:=HKB.out;omega
  have hw1:IntKind.i64.wrap ((s.size:Int) - (k:Int))=(e2:Int)+1:=by have:=HE.out;rw [IntKind.wrap_i64];omega
  have hw2:IntKind.i64.wrap ((e2:Int)+1 - 1)=(e2:Int):=by rw [IntKind.wrap_i64];omega
  have hw3:IntKind.i64.wrap (e2:Int)=(e2:Int):=by have:=HE.out;rw [IntKind.wrap_i64];omega
  refine qB5 fun K O T Y=>?_
  iterate 16 refine tk ?_
  refine ck Tryz.call64 (fun w' hw=>worksd_any _ (lh_ (HT.out.gr (Gr.trans HB.out hw)))) ?_
  refine tk2_ ?_
  refine nzR Y O (fun w2 hg=>(I.out.gr hg).er 0) ?_;clear Y T I HB O K;intro Wx11 I
  clear hwk hgt hw1 hw2 hw3
  refine wp_ret ?_
  try simp only [Exit.then,Exit.inBlock]
  exact bR ⟨rfl,I.out.1⟩ qW1
 have HYN:=lh_ hyn
 obtain ⟨y0,hy0⟩:∃ y0,(s[0]'h00).toNat=y0:=⟨_,rfl⟩
 have HN45:Hid (y0≠45):=lh_ (by rw [← hy0,qe4 h00];exact hb0)
 clear hyn hb0
 have hs0:((s.size:Int) == 0)=false:=by have h9:¬ ((s.size:Int)=0):=om;simpa using h9
 have hy45:((y0:Int) == 45)=false:=by have h9:¬ ((y0:Int)=45):=(by have:=HN45.out;omega);simpa using h9
 obtain ⟨t2,HT2⟩:=ex_ (sgQ y)
 have ht2:0≤t2:=by rw [← HT2.out];have e9:=qP6 HYN.out;omega
 have hd3:¬ (t2<0):=ok
 have lx2:=kc0_ I
 have lx3:=kc1_ I
 refine kS fun K O=>?_
 refine pd0_ fun T Y=>?_
 iterate 25 refine tk ?_
 refine ck Tryz.call139 (fun w' hw=>qh8 y t2 _ HT2.out) ?_
 refine tk2_ ?_
 refine nlD Y I fun vw6 J=>?_
 clear Y T I lx2 lx3
 go_wp2
 refine kF_ O ((J.out).er 1) fun Wx7 I=>?_;clear O K
 clear J
 clear hs0 hy45 ht2 hd3
 refine wp_cond_false (by rfl) ?_
 refine wp_skip ?_
 show Code.wp _ _ _ _ _
 refine wp_seq ?_
 rcases Nat.eq_zero_or_pos k with hk0|hk0
 ·obtain ⟨hd,ht⟩:=HK0.out hk0
  have HK:=lh_ hk0
  have HYD:=lh_ hd
  have HFT:=lh_ ht
  clear hd ht hk0
  have hkz:((k:Int) == 0)=true:=by have h9:=HK.out;simp [h9]
  refine ks2_ fun K O T Y=>?_
  refine tk2_ ?_
  refine nz Y I O ?_;clear Y T I O K;intro vw7 I
  clear hkz
  refine wp_cond_true (by rfl) ?_
  have HB:=HPb I
  have hd4:(s.toList == s.toList)=true:=by simp
  have lx2:=kc0_ I
  refine qw4 fun K O T Y=>?_
  refine tk ?_
  refine ck Tryz.call146 (fun w' hw=>qa3 y true _ (decide_eq_true (by exact HYD.out))) ?_
  refine tk3_ ?_
  refine ck Tryz.call153 (fun w' hw=>xh8 y s _ HFT.out om (lh_ (HT.out.gr (Gr.trans HB.out hw)))) ?_
  refine tk3_ ?_
  refine ck Tryz.call64 (fun w' hw=>worksd_any _ (lh_ (HT.out.gr (Gr.trans HB.out hw)))) ?_
  refine tk2_ ?_
  refine nzR Y O (fun w2 hg=>(I.out.gr hg).er 0) ?_;clear Y T I lx2 HB O K;intro Wx10 I
  clear hd4
  refine wp_ret ?_
  try simp only [Exit.then,Exit.inBlock]
  exact bR ⟨rfl,I.out.1⟩ qW1
 obtain ⟨h1,h2⟩:=HKP.out hk0
 obtain ⟨e2,he⟩:∃ e2,s.size=e2+1+k:=⟨s.size - k - 1,by omega⟩
 have he2:e2<s.size:=by omega
 have hb2:(s[e2]'he2).toNat=46:=by rw [qe4 he2,← h2];congr 1;omega
 have HE:=lh_ he
 have HKB:=lh_ h1
 have HKP0:=lh_ hk0
 clear h1 h2 he hk0
 have hkz:((k:Int) == 0)=false:=by have h9:¬ ((k:Int)=0):=(by have:=HKP0.out;omega);simpa using h9
 refine ks2_ fun K O T Y=>?_
 refine tk2_ ?_
 refine nz Y I O ?_;clear Y T I O K;intro vw7 I
 clear hkz
 refine wp_cond_false (by rfl) ?_
 refine wp_skip ?_
 show Code.wp _ _ _ _ _
 have HB:=HPb I
 have hwk:IntKind.i64.wrap ((k:Int)+1)=(k:Int)+1:=by rw [IntKind.wrap_i64];omega
 have hgt:(k:Int)+1<(s.size:Int):=by have:=HKB.out;omega
 have hw1:IntKind.i64.wrap ((s.size:Int) - (k:Int))=(e2:Int)+1:=by have:=HE.out;rw [IntKind.wrap_i64];omega
 have hw2:IntKind.i64.wrap ((e2:Int)+1 - 1)=(e2:Int):=by rw [IntKind.wrap_i64];omega
 have hw3:IntKind.i64.wrap (e2:Int)=(e2:Int):=by have:=HE.out;rw [IntKind.wrap_i64];omega
 refine qB5 fun K O T Y=>?_
 iterate 16 refine tk ?_
 refine ck Tryz.call64 (fun w' hw=>worksd_any _ (lh_ (HT.out.gr (Gr.trans HB.out hw)))) ?_
 refine tk2_ ?_
 refine nzR Y O (fun w2 hg=>(I.out.gr hg).er 0) ?_;clear Y T I HB O K;intro Wx11 I
 clear hwk hgt hw1 hw2 hw3
 refine wp_ret ?_
 try simp only [Exit.then,Exit.inBlock]
 exact bR ⟨rfl,I.out.1⟩ qW1
theorem qQ7 (bbxn:Bool) (vxn:Value) (kxn:Nat) (fxn:Nat→Nat) (mxn:Nat) (ixn:Int) (vxd:Value) (kxd:Nat) (fxd:Nat→Nat) (mxd:Nat) (a:Rat) (n:Int) (wy:Int) (w:World) (HWxn:Hid (Wa w vxn kxn fxn)) (HFxn:Hid (∀ i,i<kxn→fxn i<4294967296)) (HVxn:Hid (vl fxn kxn=mxn)) (HAxn:Hid ((if bbxn then -((mxn:Nat):Int) else ((mxn:Nat):Int))=ixn)) (HWxd:Hid (Wa w vxd kxd fxd)) (HFxd:Hid (∀ i,i<kxd→fxd i<4294967296)) (HVxd:Hid (vl fxd kxd=mxd)) (HQx:Hid (mkRat ixn (mxd+1)=a))  (hkxn:5<kxn) (HT:Hid (Tab w)) :
  CB 71 #[.agg #[.bool bbxn,vxn,vxd],.int .u8 n,.int .u8 wy] w (.bool true):=by
 obtain ⟨ao_xn,c_xn,rfl⟩:=HWxn.out.slice
 obtain ⟨ao_xd,c_xd,rfl⟩:=HWxd.out.slice
 go_enter Tryz.func71,Tryz.ntmps71
 have I:=lh_ (hp0 w)
 refine kSl fun K O=>?_;go_wp2
 refine kF_ O (al1_ I) fun Wx0 J=>?_;clear O K
 clear I;have I:=J;clear J
 refine wp_seq ?_
 have hd1:5<((kxn:Int)):=ok
 have lx0:=kc0_ I
 refine qh4 fun K O T Y=>?_
 iterate 6 refine tk ?_
 iterate 4 refine sk ?_
 refine tk ?_
 refine nz Y I O ?_;clear Y T I lx0 O K;intro vw1 I
 clear hd1
 refine wp_cond_true (by rfl) ?_
 have HB:=HPb I
 refine ks2_ fun K O T Y=>?_
 refine ck Tryz.call64 (fun w' hw=>worksd_any _ (lh_ (HT.out.gr (Gr.trans HB.out hw)))) ?_
 refine tk ?_
 refine nz Y I O ?_;clear Y T I HB O K;intro vw2 I
 refine wp_ret ?_
 try simp only [Exit.then,Exit.inBlock]
 exact bR ⟨rfl,I.out.1⟩ qW1
theorem qQ8 (bbxn:Bool) (vxn:Value) (kxn:Nat) (fxn:Nat→Nat) (mxn:Nat) (ixn:Int) (vxd:Value) (kxd:Nat) (fxd:Nat→Nat) (mxd:Nat) (a:Rat) (n:Int) (wy:Int) (w:World) (HWxn:Hid (Wa w vxn kxn fxn)) (HFxn:Hid (∀ i,i<kxn→fxn i<4294967296)) (HVxn:Hid (vl fxn kxn=mxn)) (HAxn:Hid ((if bbxn then -((mxn:Nat):Int) else ((mxn:Nat):Int))=ixn)) (HWxd:Hid (Wa w vxd kxd fxd)) (HFxd:Hid (∀ i,i<kxd→fxd i<4294967296)) (HVxd:Hid (vl fxd kxd=mxd)) (HQx:Hid (mkRat ixn (mxd+1)=a)) (hkxn:kxn≤5) (hkxd:5<kxd) (HT:Hid (Tab w)) :
  CB 71 #[.agg #[.bool bbxn,vxn,vxd],.int .u8 n,.int .u8 wy] w (.bool true):=by
 obtain ⟨ao_xn,c_xn,rfl⟩:=HWxn.out.slice
 obtain ⟨ao_xd,c_xd,rfl⟩:=HWxd.out.slice
 go_enter Tryz.func71,Tryz.ntmps71
 have I:=lh_ (hp0 w)
 refine kSl fun K O=>?_;go_wp2
 refine kF_ O (al1_ I) fun Wx0 J=>?_;clear O K
 clear I;have I:=J;clear J
 refine wp_seq ?_
 have hd1:¬ (5<((kxn:Int))):=ok
 have hd2:5<((kxd:Int)):=ok
 have lx0:=kc0_ I
 refine qh4 fun K O T Y=>?_
 iterate 11 refine tk ?_
 refine nz Y I O ?_;clear Y T I lx0 O K;intro vw1 I
 clear hd1 hd2
 refine wp_cond_true (by rfl) ?_
 have HB:=HPb I
 refine ks2_ fun K O T Y=>?_
 refine ck Tryz.call64 (fun w' hw=>worksd_any _ (lh_ (HT.out.gr (Gr.trans HB.out hw)))) ?_
 refine tk ?_
 refine nz Y I O ?_;clear Y T I HB O K;intro vw2 I
 refine wp_ret ?_
 try simp only [Exit.then,Exit.inBlock]
 exact bR ⟨rfl,I.out.1⟩ qW1
theorem backd_law (bbxn:Bool) (vxn:Value) (kxn:Nat) (fxn:Nat→Nat) (vxd:Value) (kxd:Nat) (fxd:Nat→Nat) (n wy:Int) (w:World) (HWxn:Hid (Wa w vxn kxn fxn)) (HFxn:Hid (∀ i,i<kxn→fxn i<4294967296)) (HWxd:Hid (Wa w vxd kxd fxd)) (HFxd:Hid (∀ i,i<kxd→fxd i<4294967296)) (hm1:0≤n) (hm2:n≤255) (hn1:0≤wy) (hn2:wy≤255) (HT:Hid (Tab w)) :
  CB 71 #[.agg #[.bool bbxn,vxn,vxd],.int .u8 n,.int .u8 wy] w (.bool true):=by
 obtain ⟨ixn,HAxn⟩:=ex_ ((if bbxn then -((vl fxn kxn:Nat):Int) else ((vl fxn kxn:Nat):Int)))
 obtain ⟨a,HQx⟩:=ex_ (mkRat ixn (vl fxd kxd+1))
 by_cases hkxn:kxn≤5
 ·skip
  by_cases hkxd:kxd≤5
  ·skip
   have hs:sz a≤6:=by
    rw [← HQx.out]
    have hm1:wl (vl fxn kxn)≤5:=by have:=qa2.2 (qe3 HFxn.out);omega
    exact qe6 (by rw [qo9 HAxn.out];exact hm1) (by have:=qa2.2 (qe3 HFxd.out);omega)
   obtain ⟨k,hk,hk2⟩:=qv0 hm1
   obtain ⟨j,hj,hj2⟩:∃ j:Nat,Int.tmod wy 3=(j:Int)∧j≤2:=⟨(wy % 3).toNat,by rw [Int.tmod_eq_emod_of_nonneg hn1];omega,by omega⟩
   obtain ⟨z,hz⟩:∃ z,rnd (1+(j:Int)) (a*(((10 ^ k:Nat):Int):Rat))=z:=⟨_,rfl⟩
   have hy:rdd (1+(j:Int)) a k=mkRat z (10 ^ k):=by unfold rdd;rw [hz]
   have hzs:(dtx z k).size≤4000:=by
    refine qZ_ ?_ hk2
    rw [← hz]
    have e1:=qG9 (1+(j:Int)) (a*(((10 ^ k:Nat):Int):Rat))
    have e2:=qe2 a (((10 ^ k:Nat):Int):Rat)
    have e3:=qo5 (k:=k) om
    omega
   obtain ⟨c1,c2⟩:=xc9 z k hzs
   exact qQ9 bbxn vxn kxn fxn _ ixn vxd kxd fxd _ a n wy k j _ _ _ w HWxn HFxn (lh_ rfl) HAxn HWxd HFxd (lh_ rfl) HQx hkxn hkxd hm1 hm2 hn1 hn2 (lh_ hk) hk2 (lh_ hj) hj2 (lh_ rfl) om om (lh_ rfl) (qb4 om (Nat.le_trans hs (by decide))) (lh_ rfl) (lh_ (by rw [hz,hy];exact c2)) (lh_ (by rw [hz];exact c1)) (by rw [hz];exact hzs) (by rw [hz];exact (qN0 z k).1) (lh_ (by rw [hz,hy];exact qW9 z k)) (lh_ (fun h=>by rw [hz,hy];subst h;exact qQ6 z)) (lh_ (fun h=>by rw [hz];exact qQ5 z k h)) HT
  exact qQ8 bbxn vxn kxn fxn _ ixn vxd kxd fxd _ a n wy w HWxn HFxn (lh_ rfl) HAxn HWxd HFxd (lh_ rfl) HQx  hkxn om HT
 exact qQ7 bbxn vxn kxn fxn _ ixn vxd kxd fxd _ a n wy w HWxn HFxn (lh_ rfl) HAxn HWxd HFxd (lh_ rfl) HQx   om HT
end Go.Proofs.YtobojnodohjiaaaGreatDoor
