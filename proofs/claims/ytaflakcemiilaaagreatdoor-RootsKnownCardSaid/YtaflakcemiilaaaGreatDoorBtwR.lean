
/- RootsBetween: the law's walk. -/
import Derived.Test.YtaflakcemiilaaaGreatDoorRRot1
import Derived.Test.YtaflakcemiilaaaGreatDoorRot1
import Derived.Test.YtaflakcemiilaaaGreatDoorSgnR
set_option maxRecDepth 100000
set_option maxHeartbeats 16000000
set_option linter.unusedVariables false
set_option linter.unusedSimpArgs false
namespace Go.Proofs.YtaflakcemiilaaaGreatDoor
open Go.RowKit
attribute [local go_sem ↓] Go.wp_at_zero Go.wp_at_succ
attribute [local go_sem ↓] qd6 qa7 qf4 qk3 qe7
attribute [local go_sem] Instr.field asAgg
theorem qQ3 (k:Nat):(1 / 2:Rat) ^ k=hq k:=rfl
theorem qA0 (k:Nat):rlo 0 k=0:=by
 have h:=qm1 (Rat.le_refl (a:=0)) k
 have h2:=qk8 0 k
 rcases (show rlo 0 k=0∨0<rlo 0 k by grind) with c|c
 ·exact c
 ·have:=Rat.mul_pos c c;grind
theorem xg5 (k:Nat):rhi 0 k=0:=by rw [ql6 (by rw [qA0];decide +kernel),qA0]
theorem qM4 {a:Rat} (h:0≤a) (hne:¬ a=0) {k:Nat} (he:rlo a k*rlo a k=a):0<rlo a k:=by
 have:=qk8 a k
 rcases (show rlo a k=0∨0<rlo a k by grind) with c|c
 ·rw [c] at he;exfalso;apply hne;rw [← he];decide +kernel
 ·exact c
theorem qG3 {a b:Rat} (h:sz a≤20) (h2:sz b≤4):sz (a / b)≤40:=by have:=qr8 a b;omega
theorem xq3 {a:Rat} {k:Nat} (h1:k*nb a.num.natAbs≤262144) (h2:k*nb a.den≤262144):sz (a ^ k)≤8192 :=
 qd5 (by rw [Rat.num_pow,Int.natAbs_pow];exact qm2 _ _ h1) (by rw [Rat.den_pow];exact qm2 _ _ h2)
theorem qn0 {k:Nat} (h:k≤100):sz ((1 / 2:Rat) ^ k)≤4:=by
 have e1:((1 / 2:Rat) ^ k).num=1:=by rw [Rat.num_pow,show (1 / 2:Rat).num=1 from by decide +kernel,Int.one_pow]
 have e2:((1 / 2:Rat) ^ k).den=2 ^ k:=by rw [Rat.den_pow,show (1 / 2:Rat).den=2 from by decide +kernel]
 refine qd5 ?_ ?_
 ·rw [e1];exact Nat.le_trans (qe5 (by decide)) (by decide)
 ·rw [e2];exact qt5 h
theorem qr3 (k:Nat) (z:Rat) (w:World) (HZ:Hid (((1 / 2:Rat)) ^ k=z)) (hk:k≤100) :
  Calls Tryz.prog 41 #[.int .i64 (((k:Nat):Int))] w fun e w'=>e=.returned (.agg #[.int .u64 (lo z.num.natAbs),.string (bg z.num.natAbs),.bool (z.num<0),.int .u64 (lo (z.den - 1)),.string (bg (z.den - 1))])∧Below w.heap.size w w':=by
 go_enter Tryz.func41,Tryz.ntmps41
 have I:=lh_ (hp0 w)
 refine kS fun K O=>?_
 refine wp_region_lit ?_
 go_wp2
 refine kF_ O ((I.out).aL (w.heap.size)) fun Wx0 J=>?_;clear O K
 clear I;have I:=J;clear J
 have HZ1:Hid (((1:Int):Rat) / ((2:Int):Rat)=(1/2:Rat)):=lh_ (by decide +kernel)
 have su1:sz ((1/2:Rat))≤4:=qd5 (qa4.2 (by decide +kernel)) (qa4.2 (by decide +kernel))
 have HZ2:Hid ((1/2:Rat) ^ k=z):=lh_ (HZ.out)
 have su2:sz z≤8192:=by have e:=HZ2.out;first|omega|(rw [← e];exact xq3 (by rw [show nb ((1 / 2:Rat)).num.natAbs=1 from by decide +kernel];omega) (by rw [show nb ((1 / 2:Rat)).den=2 from by decide +kernel];omega))
 refine ks6_ fun K O T Y=>?_
 refine ck Tryz.call88 (fun w' hw=>qF6 (1) (2) (1/2:Rat) _ (lh_ HZ1.out) (by decide) om om om om) ?_
 refine tk ?_
 refine ck Tryz.call128 (fun w' hw=>xm1 (1/2:Rat) z k _ HZ2.out om (by rw [show nb ((1 / 2:Rat)).num.natAbs=1 from by decide +kernel];omega) (by rw [show nb ((1 / 2:Rat)).den=2 from by decide +kernel];omega) om) ?_
 refine tk3_ ?_
 refine nlS Y I fun vw1 J=>?_
 clear Y T I
 go_wp2
 refine kF_ O ((J.out).aL (vw1.heap.size)) fun Wx1 I=>?_;clear O K
 clear J
 generalize vw1.heap.size=gx2 at *
 have lx2:=c1_ I
 refine ks1_ fun K O T Y=>?_
 refine tk ?_
 refine nlS Y I fun vw2 J=>?_
 clear Y T I lx2
 have lx0:=c0_ J;have fx0:=f0_ J
 have r0:=Gr.refl vw2
 go_wp2
 refine kO O ?_;clear O K
 clear r0 lx0 fx0
 refine fH (((((J.out).put2 0 0 rfl).put2 0 2 rfl).put 0 4 _ rfl).er 1) fun Wx2 I=>?_
 clear J
 refine wp_ret ?_
 try simp only [Exit.then,Exit.inBlock]
 have lx0:=c0_ I
 have r0:=Gr.refl Wx2
 exact bodyPost_ret (v:=.agg #[.int .u64 (lo z.num.natAbs),.string (bg z.num.natAbs),.bool (z.num<0),.int .u64 (lo (z.den - 1)),.string (bg (z.den - 1))]) (by simp [results,Tryz.results41,go_sem,lx0 _ r0]) rfl ⟨rfl,I.out.1⟩
theorem xF2 (bbxn:Bool) (vxn:Value) (kxn:Nat) (fxn:Nat→Nat) (mxn:Nat) (ixn:Int) (vxd:Value) (kxd:Nat) (fxd:Nat→Nat) (mxd:Nat) (a:Rat) (n:Int) (k:Nat) (st:Rat) (c l:Rat) (h:Rat) (w:World) (HWxn:Hid (Wa w vxn kxn fxn)) (HFxn:Hid (∀ i,i<kxn→fxn i<4294967296)) (HVxn:Hid (vl fxn kxn=mxn)) (HAxn:Hid ((if bbxn then -((mxn:Nat):Int) else ((mxn:Nat):Int))=ixn)) (HWxd:Hid (Wa w vxd kxd fxd)) (HFxd:Hid (∀ i,i<kxd→fxd i<4294967296)) (HVxd:Hid (vl fxd kxd=mxd)) (HQx:Hid (mkRat ixn (mxd+1)=a)) (hkxn:kxn≤6) (hkxd:kxd≤6) (hm1:0≤n) (hm2:n≤255) (HMk:Hid (Int.tmod n 101=(k:Int))) (hk:k≤100) (HST:Hid (((1 / 2:Rat)) ^ k=st)) (HST0:Hid (st≠0)) (HAA:Hid (qabs a=c)) (hsc:sz c≤7) (HA0:Hid (0≤c)) (HL:Hid (rlo c k=l)) (HL0:Hid (0≤l)) (hsl:sz l≤20) (kl:Rat) (HKQ:Hid (l / st=kl)) (hsk:sz kl≤40) (HKL:Hid (kl.den=1)) (HH:Hid (rhi c k=h)) (hsh:sz h≤20) (HHP:Hid (0<h)) (HADD:Hid (l+st=h)) (HSUB:Hid (h - st=l)) (HSL:Hid (h - l=st)) (HLH:Hid (¬ l=h)) (HNE:Hid (¬ l*l=c)) (HQ1:Hid (l*l - c<0)) (HQ2:Hid (0<h*h - c)) (kh:Rat) (HKP:Hid (h / st=kh)) (hskh:sz kh≤40) (HKH:Hid (kh.den=1)) (HT:Hid (Tab w)) :
  Calls Tryz.prog 9 #[.agg #[.bool bbxn,vxn,vxd],.int .u8 n] w fun e w'=>e=.returned (.bool true)∧Below w.heap.size w w':=by
 obtain ⟨ao_xn,c_xn,rfl⟩:=HWxn.out.slice
 obtain ⟨ao_xd,c_xd,rfl⟩:=HWxd.out.slice
 have hm_xn:wl mxn≤6:=by rw [← HVxn.out];have:=qa4.2 (qf7 HFxn.out);omega
 have hm_xd:wl mxd≤6:=by rw [← HVxd.out];have:=qa4.2 (qf7 HFxd.out);omega
 have hi_x:wl (Int.natAbs ixn)≤6:=by rw [qn9 HAxn.out];exact hm_xn
 have hs_x:sz a≤7:=by rw [← HQx.out];exact qf6 hi_x hm_xd
 have hr_x:rz a≤21:=by rw [← HQx.out];exact qh1 hi_x hm_xd (by decide)
 have hwn:IntKind.i64.wrap n=n:=by rw [IntKind.wrap_i64];omega
 go_enter Tryz.func9,Tryz.ntmps9
 have I:=lh_ (hp0 w)
 refine kS fun K O=>?_
 refine wp_region_lit ?_
 go_wp2
 refine kF_ O ((I.out).aL (w.heap.size)) fun Wx0 J=>?_;clear O K
 clear I;have I:=J;clear J
 refine wp_seq ?_
 have hd1:¬ (6<((kxn:Int))):=by first|exact ok|exact HAA.out|exact HA0.out|exact HL.out|exact HH.out|exact HSQ.out|exact HADD.out|exact HSUB.out|exact HSL.out|exact HHP.out|exact HKL.out|exact HKH.out|exact HLH.out|exact HNE.out|exact Rat.sub_self|exact HZL.out|exact HZH.out|exact HKQ.out
 have hd2:¬ (6<((kxd:Int))):=by first|exact ok|exact HAA.out|exact HA0.out|exact HL.out|exact HH.out|exact HSQ.out|exact HADD.out|exact HSUB.out|exact HSL.out|exact HHP.out|exact HKL.out|exact HKH.out|exact HLH.out|exact HNE.out|exact Rat.sub_self|exact HZL.out|exact HZH.out|exact HKQ.out
 have lx0:=c0_ I
 refine ql9 fun K O T Y=>?_
 iterate 11 refine tk ?_
 refine nlS Y I fun vw1 J=>?_
 clear Y T I lx0
 go_wp2
 refine kO O ?_;clear O K
 have I:=J;clear J
 clear hd1 hd2
 refine wp_cond_false (by rfl) ?_
 refine wp_skip ?_
 show Code.wp _ _ _ _ _
 have hrmk_2:Int.tmod n 101=(k:Int):=HMk.out
 refine ks4_ fun K O T Y=>?_
 iterate 4 refine tk ?_
 refine nlS Y I fun vw2 J=>?_
 clear Y T I
 go_wp2
 refine kO O ?_;clear O K
 have I:=J;clear J
 clear hrmk_2
 have HB:=HPb I
 have HZ1:Hid (qabs a=c):=lh_ (by first|exact ok|exact HAA.out|exact HA0.out|exact HL.out|exact HH.out|exact HSQ.out|exact HADD.out|exact HSUB.out|exact HSL.out|exact HHP.out|exact HKL.out|exact HKH.out|exact HLH.out|exact HNE.out|exact Rat.sub_self|exact HZL.out|exact HZH.out|exact HKQ.out)
 have su1:sz c≤7:=by have e:=HZ1.out;first|omega|(rw [← e];rw [qc8];omega)
 have lx0:=c0_ I
 refine ks3_ fun K O T Y=>?_
 refine tk ?_
 refine ck Tryz.call36 (fun w' hw=>qj8 bbxn kxn fxn mxn ixn kxd fxd mxd a ao_xn c_xn ao_xd c_xd w' (lh_ (HWxn.out.gr (Gr.trans HB.out hw))) HFxn HVxn HAxn (lh_ (HWxd.out.gr (Gr.trans HB.out hw))) HFxd HVxd HQx om om om om) ?_
 refine ck Tryz.call31 (fun w' hw=>qd0 a c _ HZ1.out) ?_
 refine nlS Y I fun vw3 J=>?_
 clear Y T I lx0 HB
 go_wp2
 refine kF_ O (((J.out).aL (vw3.heap.size)).er 0) fun Wx4 I=>?_;clear O K
 clear J
 generalize vw3.heap.size=gx2 at *
 have HZ2:Hid (rlo c k=l):=lh_ (by first|exact ok|exact HAA.out|exact HA0.out|exact HL.out|exact HH.out|exact HSQ.out|exact HADD.out|exact HSUB.out|exact HSL.out|exact HHP.out|exact HKL.out|exact HKH.out|exact HLH.out|exact HNE.out|exact Rat.sub_self|exact HZL.out|exact HZH.out|exact HKQ.out)
 have su2:sz l≤17:=by have e:=HZ2.out;first|omega|(rw [← e];exact Nat.le_trans (qd2 om om) om)
 have lx2:=c0_ I
 refine ks6_ fun K O T Y=>?_
 refine tk2_ ?_
 refine ck Tryz.call23 (fun w' hw=>qb1 c l k _ (lh_ (by first|exact ok|exact HAA.out|exact HA0.out|exact HL.out|exact HH.out|exact HSQ.out|exact HADD.out|exact HSUB.out|exact HSL.out|exact HHP.out|exact HKL.out|exact HKH.out|exact HLH.out|exact HNE.out|exact Rat.sub_self|exact HZL.out|exact HZH.out|exact HKQ.out)) (lh_ HZ2.out) om om) ?_
 refine tk3_ ?_
 refine nlS Y I fun vw4 J=>?_
 clear Y T I lx2
 go_wp2
 refine kF_ O ((J.out).aL (vw4.heap.size)) fun Wx5 I=>?_;clear O K
 clear J
 generalize vw4.heap.size=gx3 at *
 have HZ3:Hid (rhi c k=h):=lh_ (by first|exact ok|exact HAA.out|exact HA0.out|exact HL.out|exact HH.out|exact HSQ.out|exact HADD.out|exact HSUB.out|exact HSL.out|exact HHP.out|exact HKL.out|exact HKH.out|exact HLH.out|exact HNE.out|exact Rat.sub_self|exact HZL.out|exact HZH.out|exact HKQ.out)
 have su3:sz h≤17:=by have e:=HZ3.out;first|omega|(rw [← e];exact Nat.le_trans (qd8 om om) om)
 have lx2:=c0_ I
 refine ks6_ fun K O T Y=>?_
 refine tk2_ ?_
 refine ck Tryz.call25 (fun w' hw=>qb6 c h k _ (lh_ (by first|exact ok|exact HAA.out|exact HA0.out|exact HL.out|exact HH.out|exact HSQ.out|exact HADD.out|exact HSUB.out|exact HSL.out|exact HHP.out|exact HKL.out|exact HKH.out|exact HLH.out|exact HNE.out|exact Rat.sub_self|exact HZL.out|exact HZH.out|exact HKQ.out)) (lh_ HZ3.out) om om) ?_
 refine tk3_ ?_
 refine nlS Y I fun vw5 J=>?_
 clear Y T I lx2
 go_wp2
 refine kF_ O ((J.out).aL (vw5.heap.size)) fun Wx6 I=>?_;clear O K
 clear J
 generalize vw5.heap.size=gx4 at *
 have HZ4:Hid (((1 / 2:Rat)) ^ k=st):=lh_ (HST.out)
 have su4:sz st≤4:=by have e:=HZ4.out;first|omega|(rw [← e];exact qn0 om)
 refine ks2_ fun K O T Y=>?_
 refine tk ?_
 refine ck Tryz.call41 (fun w' hw=>qr3 k st _ (lh_ HZ4.out) om) ?_
 refine nlS Y I fun vw6 J=>?_
 clear Y T I
 go_wp2
 refine kF_ O ((J.out).aL (vw6.heap.size)) fun Wx7 I=>?_;clear O K
 clear J
 generalize vw6.heap.size=gx5 at *
 refine wp_seq ?_
 obtain ⟨t5,HT5⟩:∃ z,Hid (sgQ l=z):=⟨_,lh_ rfl⟩
 have ht5:0≤t5:=by rw [← HT5.out];exact sgQ_nn0 HL0.out
 have hd3:¬ (t5<0):=by first|exact ok|exact HAA.out|exact HA0.out|exact HL.out|exact HH.out|exact HSQ.out|exact HADD.out|exact HSUB.out|exact HSL.out|exact HHP.out|exact HKL.out|exact HKH.out|exact HLH.out|exact HNE.out|exact Rat.sub_self|exact HZL.out|exact HZH.out|exact HKQ.out
 obtain ⟨u6,HZ6⟩:∃ z,Hid (l*(l)=z):=⟨_,lh_ rfl⟩
 have su6:sz u6≤34:=by rw [← HZ6.out];have:=qb0 l l;omega
 have HZ7:Hid (l+(st)=h):=lh_ (by first|exact ok|exact HAA.out|exact HA0.out|exact HL.out|exact HH.out|exact HSQ.out|exact HADD.out|exact HSUB.out|exact HSL.out|exact HHP.out|exact HKL.out|exact HKH.out|exact HLH.out|exact HNE.out|exact Rat.sub_self|exact HZL.out|exact HZH.out|exact HKQ.out|(simp only [← HZ6.out] <;> first|exact ok|exact HAA.out|exact HA0.out|exact HL.out|exact HH.out|exact HSQ.out|exact HADD.out|exact HSUB.out|exact HSL.out|exact HHP.out|exact HKL.out|exact HKH.out|exact HLH.out|exact HNE.out|exact Rat.sub_self|exact HZL.out|exact HZH.out|exact HKQ.out))
 have su7:sz h≤22:=by have e:=HZ7.out;first|omega|(rw [← e];have:=qe0 l st;omega)
 obtain ⟨u8,HZ8⟩:∃ z,Hid (h*(h)=z):=⟨_,lh_ rfl⟩
 have su8:sz u8≤44:=by rw [← HZ8.out];have:=qb0 h h;omega
 have HZ9:Hid (h*(h)=u8):=lh_ (by first|exact ok|exact HAA.out|exact HA0.out|exact HL.out|exact HH.out|exact HSQ.out|exact HADD.out|exact HSUB.out|exact HSL.out|exact HHP.out|exact HKL.out|exact HKH.out|exact HLH.out|exact HNE.out|exact Rat.sub_self|exact HZL.out|exact HZH.out|exact HKQ.out|(simp only [← HZ8.out,← HZ6.out] <;> first|exact ok|exact HAA.out|exact HA0.out|exact HL.out|exact HH.out|exact HSQ.out|exact HADD.out|exact HSUB.out|exact HSL.out|exact HHP.out|exact HKL.out|exact HKH.out|exact HLH.out|exact HNE.out|exact Rat.sub_self|exact HZL.out|exact HZH.out|exact HKQ.out))
 have su9:sz u8≤34:=by have e:=HZ9.out;first|omega|(rw [← e];have:=qb0 h h;omega)
 have lx2:=c0_ I
 have lx3:=c1_ I
 have lx4:=c2_ I
 have lx5:=c3_ I
 refine kS fun K O=>?_
 refine pd0_ fun T Y=>?_
 iterate 8 refine tk ?_
 refine ck Tryz.call35 (fun w' hw=>qa5 l t5 _ HT5.out) ?_
 iterate 5 refine tk ?_
 refine ck Tryz.call37 (fun w' hw=>qa3 l u6 _ (lh_ HZ6.out) om) ?_
 refine ck Tryz.call38 (fun w' hw=>qa8 u6 c (-1) _ (by have e9:(u6) - c<(0:Rat):=(by simp only [← HZ6.out];exact HQ1.out);exact qf5 e9) om om) ?_
 iterate 6 refine tk ?_
 refine ck Tryz.call30 (fun w' hw=>qc5 l st h _ HZ7.out om om) ?_
 refine ck Tryz.call37 (fun w' hw=>qa3 h u8 _ (lh_ HZ8.out) om) ?_
 refine ck Tryz.call38 (fun w' hw=>qa8 u8 c (1) _ (by have e9:(0:Rat)<(u8) - (c):=(by simp only [← HZ8.out,← HZ6.out];exact HQ2.out);exact qh9 e9) om om) ?_
 iterate 5 refine tk ?_
 refine ck Tryz.call37 (fun w' hw=>qa3 h u8 _ (lh_ HZ9.out) om) ?_
 refine ck Tryz.call38 (fun w' hw=>qa8 u8 c (1) _ (by have e9:(0:Rat)<(u8) - (c):=(by simp only [← HZ8.out,← HZ6.out];exact HQ2.out);exact qh9 e9) om om) ?_
 refine tk ?_
 refine nlD Y I fun vw7 J=>?_
 clear Y T I lx2 lx3 lx4 lx5
 go_wp2
 refine kO O ?_;clear O K
 have I:=J;clear J
 clear ht5 hd3
 refine wp_cond_false (by rfl) ?_
 refine wp_skip ?_
 show Code.wp _ _ _ _ _
 refine wp_seq ?_
 have HZ10:Hid (h - st=l):=lh_ (by first|exact ok|exact HAA.out|exact HA0.out|exact HL.out|exact HH.out|exact HSQ.out|exact HADD.out|exact HSUB.out|exact HSL.out|exact HHP.out|exact HKL.out|exact HKH.out|exact HLH.out|exact HNE.out|exact Rat.sub_self|exact HZL.out|exact HZH.out|exact HKQ.out|(simp only [← HZ8.out,← HZ6.out] <;> first|exact ok|exact HAA.out|exact HA0.out|exact HL.out|exact HH.out|exact HSQ.out|exact HADD.out|exact HSUB.out|exact HSL.out|exact HHP.out|exact HKL.out|exact HKH.out|exact HLH.out|exact HNE.out|exact Rat.sub_self|exact HZL.out|exact HZH.out|exact HKQ.out))
 have su10:sz l≤22:=by have e:=HZ10.out;first|omega|(rw [← e];have:=qA8 h st;omega)
 have HZ11:Hid (l*(l)=u6):=lh_ (by first|exact ok|exact HAA.out|exact HA0.out|exact HL.out|exact HH.out|exact HSQ.out|exact HADD.out|exact HSUB.out|exact HSL.out|exact HHP.out|exact HKL.out|exact HKH.out|exact HLH.out|exact HNE.out|exact Rat.sub_self|exact HZL.out|exact HZH.out|exact HKQ.out|(simp only [← HZ8.out,← HZ6.out] <;> first|exact ok|exact HAA.out|exact HA0.out|exact HL.out|exact HH.out|exact HSQ.out|exact HADD.out|exact HSUB.out|exact HSL.out|exact HHP.out|exact HKL.out|exact HKH.out|exact HLH.out|exact HNE.out|exact Rat.sub_self|exact HZL.out|exact HZH.out|exact HKQ.out))
 have su11:sz u6≤44:=by have e:=HZ11.out;first|omega|(rw [← e];have:=qb0 l l;omega)
 have lx2:=c0_ I
 have lx4:=c2_ I
 have lx5:=c3_ I
 refine kS fun K O=>?_
 refine pd1_ fun T Y=>?_
 refine tk ?_
 refine ck Tryz.call35 (fun w' hw=>qa5 h (1) _ (by have e9:(0:Rat)<(h):=(by first|exact ok|exact HAA.out|exact HA0.out|exact HL.out|exact HH.out|exact HSQ.out|exact HADD.out|exact HSUB.out|exact HSL.out|exact HHP.out|exact HKL.out|exact HKH.out|exact HLH.out|exact HNE.out|exact Rat.sub_self|exact HZL.out|exact HZH.out|exact HKQ.out|(simp only [← HZ8.out,← HZ6.out] <;> first|exact ok|exact HAA.out|exact HA0.out|exact HL.out|exact HH.out|exact HSQ.out|exact HADD.out|exact HSUB.out|exact HSL.out|exact HHP.out|exact HKL.out|exact HKH.out|exact HLH.out|exact HNE.out|exact Rat.sub_self|exact HZL.out|exact HZH.out|exact HKQ.out));exact qh9 e9)) ?_
 iterate 5 refine tk ?_
 refine ck Tryz.call42 (fun w' hw=>qp7 h st l _ HZ10.out om om) ?_
 refine ck Tryz.call37 (fun w' hw=>qa3 l u6 _ (lh_ HZ11.out) om) ?_
 refine ck Tryz.call38 (fun w' hw=>qa8 u6 c (-1) _ (by have e9:(u6) - c<(0:Rat):=(by simp only [← HZ8.out,← HZ6.out];exact HQ1.out);exact qf5 e9) om om) ?_
 refine tk ?_
 refine nlD Y I fun vw8 J=>?_
 clear Y T I lx2 lx4 lx5
 go_wp2
 refine kO O ?_;clear O K
 have I:=J;clear J
 refine wp_cond_false (by rfl) ?_
 refine wp_skip ?_
 show Code.wp _ _ _ _ _
 have HZ12:Hid (l / st=kl):=lh_ (HKQ.out)
 have su12:sz kl≤40:=by have e:=HZ12.out;first|omega|(rw [← e];have:=qr8 l st;omega)
 have lx3:=c1_ I
 have lx5:=c3_ I
 refine ks6_ fun K O T Y=>?_
 refine tk2_ ?_
 refine ck Tryz.call43 (fun w' hw=>ql0 l st kl _ HZ12.out (by exact HST0.out) om om) ?_
 refine tk3_ ?_
 refine nlS Y I fun vw9 J=>?_
 clear Y T I lx3 lx5
 go_wp2
 refine kF_ O ((J.out).aL (vw9.heap.size)) fun Wx12 I=>?_;clear O K
 clear J
 generalize vw9.heap.size=gx6 at *
 have HZ13:Hid (h / st=kh):=lh_ (HKP.out)
 have su13:sz kh≤40:=by have e:=HZ13.out;first|omega|(rw [← e];have:=qr8 h st;omega)
 have lx4:=c2_ I
 have lx5:=c3_ I
 refine ks6_ fun K O T Y=>?_
 refine tk2_ ?_
 refine ck Tryz.call43 (fun w' hw=>ql0 h st kh _ HZ13.out (by exact HST0.out) om om) ?_
 refine tk3_ ?_
 refine nlS Y I fun vw10 J=>?_
 clear Y T I lx4 lx5
 go_wp2
 refine kF_ O ((J.out).aL (vw10.heap.size)) fun Wx13 I=>?_;clear O K
 clear J
 generalize vw10.heap.size=gx7 at *
 have HZ14:Hid (l*(l)=u6):=lh_ (by first|exact ok|exact HAA.out|exact HA0.out|exact HL.out|exact HH.out|exact HSQ.out|exact HADD.out|exact HSUB.out|exact HSL.out|exact HHP.out|exact HKL.out|exact HKH.out|exact HLH.out|exact HNE.out|exact Rat.sub_self|exact HZL.out|exact HZH.out|exact HKQ.out|(simp only [← HZ8.out,← HZ6.out] <;> first|exact ok|exact HAA.out|exact HA0.out|exact HL.out|exact HH.out|exact HSQ.out|exact HADD.out|exact HSUB.out|exact HSL.out|exact HHP.out|exact HKL.out|exact HKH.out|exact HLH.out|exact HNE.out|exact Rat.sub_self|exact HZL.out|exact HZH.out|exact HKQ.out))
 have su14:sz u6≤34:=by have e:=HZ14.out;first|omega|(rw [← e];have:=qb0 l l;omega)
 have hd4:decide (u6=c)=false:=decide_eq_false (by first|exact ok|exact HAA.out|exact HA0.out|exact HL.out|exact HH.out|exact HSQ.out|exact HADD.out|exact HSUB.out|exact HSL.out|exact HHP.out|exact HKL.out|exact HKH.out|exact HLH.out|exact HNE.out|exact Rat.sub_self|exact HZL.out|exact HZH.out|exact HKQ.out|(simp only [← HZ8.out,← HZ6.out] <;> first|exact ok|exact HAA.out|exact HA0.out|exact HL.out|exact HH.out|exact HSQ.out|exact HADD.out|exact HSUB.out|exact HSL.out|exact HHP.out|exact HKL.out|exact HKH.out|exact HLH.out|exact HNE.out|exact Rat.sub_self|exact HZL.out|exact HZH.out|exact HKQ.out))
 have lx2:=c0_ I
 have lx3:=c1_ I
 refine kS fun K O=>?_
 refine pd2_ fun T Y=>?_
 refine tk2_ ?_
 refine ck Tryz.call37 (fun w' hw=>qa3 l u6 _ (lh_ HZ14.out) om) ?_
 refine tk ?_
 refine nlD Y I fun vw11 J=>?_
 clear Y T I lx2 lx3
 go_wp2
 refine kF_ O ((J.out).er 0) fun Wx14 I=>?_;clear O K
 clear J
 clear hd4
 have HB:=HPb I
 have hd5:decide (l=h)=false:=decide_eq_false (by first|exact ok|exact HAA.out|exact HA0.out|exact HL.out|exact HH.out|exact HSQ.out|exact HADD.out|exact HSUB.out|exact HSL.out|exact HHP.out|exact HKL.out|exact HKH.out|exact HLH.out|exact HNE.out|exact Rat.sub_self|exact HZL.out|exact HZH.out|exact HKQ.out|(simp only [← HZ8.out,← HZ6.out] <;> first|exact ok|exact HAA.out|exact HA0.out|exact HL.out|exact HH.out|exact HSQ.out|exact HADD.out|exact HSUB.out|exact HSL.out|exact HHP.out|exact HKL.out|exact HKH.out|exact HLH.out|exact HNE.out|exact Rat.sub_self|exact HZL.out|exact HZH.out|exact HKQ.out))
 have HZ15:Hid (h - l=st):=lh_ (by first|exact ok|exact HAA.out|exact HA0.out|exact HL.out|exact HH.out|exact HSQ.out|exact HADD.out|exact HSUB.out|exact HSL.out|exact HHP.out|exact HKL.out|exact HKH.out|exact HLH.out|exact HNE.out|exact Rat.sub_self|exact HZL.out|exact HZH.out|exact HKQ.out|(simp only [← HZ8.out,← HZ6.out] <;> first|exact ok|exact HAA.out|exact HA0.out|exact HL.out|exact HH.out|exact HSQ.out|exact HADD.out|exact HSUB.out|exact HSL.out|exact HHP.out|exact HKL.out|exact HKH.out|exact HLH.out|exact HNE.out|exact Rat.sub_self|exact HZL.out|exact HZH.out|exact HKQ.out))
 have su15:sz st≤35:=by have e:=HZ15.out;first|omega|(rw [← e];have:=qA8 h l;omega)
 have lx3:=c0_ I
 have lx4:=c1_ I
 have lx5:=c2_ I
 have lx6:=c3_ I
 have lx7:=c4_ I
 refine kS fun K O=>?_
 refine pd3_ fun T Y=>?_
 iterate 8 refine tk ?_
 refine ck Tryz.call44 (fun w' hw=>qb_ kl true _ (decide_eq_true (by first|exact ok|exact HAA.out|exact HA0.out|exact HL.out|exact HH.out|exact HSQ.out|exact HADD.out|exact HSUB.out|exact HSL.out|exact HHP.out|exact HKL.out|exact HKH.out|exact HLH.out|exact HNE.out|exact Rat.sub_self|exact HZL.out|exact HZH.out|exact HKQ.out|(simp only [← HZ8.out,← HZ6.out] <;> first|exact ok|exact HAA.out|exact HA0.out|exact HL.out|exact HH.out|exact HSQ.out|exact HADD.out|exact HSUB.out|exact HSL.out|exact HHP.out|exact HKL.out|exact HKH.out|exact HLH.out|exact HNE.out|exact Rat.sub_self|exact HZL.out|exact HZH.out|exact HKQ.out)))) ?_
 refine tk3_ ?_
 refine ck Tryz.call44 (fun w' hw=>qb_ kh true _ (decide_eq_true (by first|exact ok|exact HAA.out|exact HA0.out|exact HL.out|exact HH.out|exact HSQ.out|exact HADD.out|exact HSUB.out|exact HSL.out|exact HHP.out|exact HKL.out|exact HKH.out|exact HLH.out|exact HNE.out|exact Rat.sub_self|exact HZL.out|exact HZH.out|exact HKQ.out|(simp only [← HZ8.out,← HZ6.out] <;> first|exact ok|exact HAA.out|exact HA0.out|exact HL.out|exact HH.out|exact HSQ.out|exact HADD.out|exact HSUB.out|exact HSL.out|exact HHP.out|exact HKL.out|exact HKH.out|exact HLH.out|exact HNE.out|exact Rat.sub_self|exact HZL.out|exact HZH.out|exact HKQ.out)))) ?_
 iterate 14 refine tk ?_
 refine ck Tryz.call42 (fun w' hw=>qp7 h l st _ HZ15.out om om) ?_
 iterate 4 refine tk ?_
 refine ck Tryz.call22 (fun w' hw=>qa6 _ (lh_ (HT.out.gr (Gr.trans HB.out hw)))) ?_
 refine tk ?_
 refine nlD Y I fun vw12 J=>?_
 clear Y T I lx3 lx4 lx5 lx6 lx7 HB
 go_wp2
 refine kF_ O ((((((J.out).er 4).er 3).er 2).er 1).er 0) fun Wx15 I=>?_;clear O K
 clear J
 clear hd5
 refine wp_ret ?_
 try simp only [Exit.then,Exit.inBlock]
 exact bodyPost_ret (v:=.bool true) (by simp [results,Tryz.results9,go_sem]) rfl ⟨rfl,I.out.1⟩
theorem xD8 (bbxn:Bool) (vxn:Value) (kxn:Nat) (fxn:Nat→Nat) (mxn:Nat) (ixn:Int) (vxd:Value) (kxd:Nat) (fxd:Nat→Nat) (mxd:Nat) (a:Rat) (n:Int) (k:Nat) (st:Rat) (c l:Rat) (w:World) (HWxn:Hid (Wa w vxn kxn fxn)) (HFxn:Hid (∀ i,i<kxn→fxn i<4294967296)) (HVxn:Hid (vl fxn kxn=mxn)) (HAxn:Hid ((if bbxn then -((mxn:Nat):Int) else ((mxn:Nat):Int))=ixn)) (HWxd:Hid (Wa w vxd kxd fxd)) (HFxd:Hid (∀ i,i<kxd→fxd i<4294967296)) (HVxd:Hid (vl fxd kxd=mxd)) (HQx:Hid (mkRat ixn (mxd+1)=a)) (hkxn:kxn≤6) (hkxd:kxd≤6) (hm1:0≤n) (hm2:n≤255) (HMk:Hid (Int.tmod n 101=(k:Int))) (hk:k≤100) (HST:Hid (((1 / 2:Rat)) ^ k=st)) (HST0:Hid (st≠0)) (HAA:Hid (qabs a=c)) (hsc:sz c≤7) (HA0:Hid (0≤c)) (HL:Hid (rlo c k=l)) (HL0:Hid (0≤l)) (hsl:sz l≤20) (kl:Rat) (HKQ:Hid (l / st=kl)) (hsk:sz kl≤40) (HKL:Hid (kl.den=1)) (HH:Hid (rhi c k=l)) (HSQ:Hid (l*l=c)) (HHP:Hid (0<l)) (HM1:Hid (0<(l+st)*(l+st) - c)) (HM2:Hid ((l - st)*(l - st) - c<0)) (HT:Hid (Tab w)) :
  Calls Tryz.prog 9 #[.agg #[.bool bbxn,vxn,vxd],.int .u8 n] w fun e w'=>e=.returned (.bool true)∧Below w.heap.size w w':=by
 obtain ⟨ao_xn,c_xn,rfl⟩:=HWxn.out.slice
 obtain ⟨ao_xd,c_xd,rfl⟩:=HWxd.out.slice
 have hm_xn:wl mxn≤6:=by rw [← HVxn.out];have:=qa4.2 (qf7 HFxn.out);omega
 have hm_xd:wl mxd≤6:=by rw [← HVxd.out];have:=qa4.2 (qf7 HFxd.out);omega
 have hi_x:wl (Int.natAbs ixn)≤6:=by rw [qn9 HAxn.out];exact hm_xn
 have hs_x:sz a≤7:=by rw [← HQx.out];exact qf6 hi_x hm_xd
 have hr_x:rz a≤21:=by rw [← HQx.out];exact qh1 hi_x hm_xd (by decide)
 have hwn:IntKind.i64.wrap n=n:=by rw [IntKind.wrap_i64];omega
 go_enter Tryz.func9,Tryz.ntmps9
 have I:=lh_ (hp0 w)
 refine kS fun K O=>?_
 refine wp_region_lit ?_
 go_wp2
 refine kF_ O ((I.out).aL (w.heap.size)) fun Wx0 J=>?_;clear O K
 clear I;have I:=J;clear J
 refine wp_seq ?_
 have hd1:¬ (6<((kxn:Int))):=by first|exact ok|exact HAA.out|exact HA0.out|exact HL.out|exact HH.out|exact HSQ.out|exact HADD.out|exact HSUB.out|exact HSL.out|exact HHP.out|exact HKL.out|exact HKH.out|exact HLH.out|exact HNE.out|exact Rat.sub_self|exact HZL.out|exact HZH.out|exact HKQ.out
 have hd2:¬ (6<((kxd:Int))):=by first|exact ok|exact HAA.out|exact HA0.out|exact HL.out|exact HH.out|exact HSQ.out|exact HADD.out|exact HSUB.out|exact HSL.out|exact HHP.out|exact HKL.out|exact HKH.out|exact HLH.out|exact HNE.out|exact Rat.sub_self|exact HZL.out|exact HZH.out|exact HKQ.out
 have lx0:=c0_ I
 refine ql9 fun K O T Y=>?_
 iterate 11 refine tk ?_
 refine nlS Y I fun vw1 J=>?_
 clear Y T I lx0
 go_wp2
 refine kO O ?_;clear O K
 have I:=J;clear J
 clear hd1 hd2
 refine wp_cond_false (by rfl) ?_
 refine wp_skip ?_
 show Code.wp _ _ _ _ _
 have hrmk_2:Int.tmod n 101=(k:Int):=HMk.out
 refine ks4_ fun K O T Y=>?_
 iterate 4 refine tk ?_
 refine nlS Y I fun vw2 J=>?_
 clear Y T I
 go_wp2
 refine kO O ?_;clear O K
 have I:=J;clear J
 clear hrmk_2
 have HB:=HPb I
 have HZ1:Hid (qabs a=c):=lh_ (by first|exact ok|exact HAA.out|exact HA0.out|exact HL.out|exact HH.out|exact HSQ.out|exact HADD.out|exact HSUB.out|exact HSL.out|exact HHP.out|exact HKL.out|exact HKH.out|exact HLH.out|exact HNE.out|exact Rat.sub_self|exact HZL.out|exact HZH.out|exact HKQ.out)
 have su1:sz c≤7:=by have e:=HZ1.out;first|omega|(rw [← e];rw [qc8];omega)
 have lx0:=c0_ I
 refine ks3_ fun K O T Y=>?_
 refine tk ?_
 refine ck Tryz.call36 (fun w' hw=>qj8 bbxn kxn fxn mxn ixn kxd fxd mxd a ao_xn c_xn ao_xd c_xd w' (lh_ (HWxn.out.gr (Gr.trans HB.out hw))) HFxn HVxn HAxn (lh_ (HWxd.out.gr (Gr.trans HB.out hw))) HFxd HVxd HQx om om om om) ?_
 refine ck Tryz.call31 (fun w' hw=>qd0 a c _ HZ1.out) ?_
 refine nlS Y I fun vw3 J=>?_
 clear Y T I lx0 HB
 go_wp2
 refine kF_ O (((J.out).aL (vw3.heap.size)).er 0) fun Wx4 I=>?_;clear O K
 clear J
 generalize vw3.heap.size=gx2 at *
 have HZ2:Hid (rlo c k=l):=lh_ (by first|exact ok|exact HAA.out|exact HA0.out|exact HL.out|exact HH.out|exact HSQ.out|exact HADD.out|exact HSUB.out|exact HSL.out|exact HHP.out|exact HKL.out|exact HKH.out|exact HLH.out|exact HNE.out|exact Rat.sub_self|exact HZL.out|exact HZH.out|exact HKQ.out)
 have su2:sz l≤17:=by have e:=HZ2.out;first|omega|(rw [← e];exact Nat.le_trans (qd2 om om) om)
 have lx2:=c0_ I
 refine ks6_ fun K O T Y=>?_
 refine tk2_ ?_
 refine ck Tryz.call23 (fun w' hw=>qb1 c l k _ (lh_ (by first|exact ok|exact HAA.out|exact HA0.out|exact HL.out|exact HH.out|exact HSQ.out|exact HADD.out|exact HSUB.out|exact HSL.out|exact HHP.out|exact HKL.out|exact HKH.out|exact HLH.out|exact HNE.out|exact Rat.sub_self|exact HZL.out|exact HZH.out|exact HKQ.out)) (lh_ HZ2.out) om om) ?_
 refine tk3_ ?_
 refine nlS Y I fun vw4 J=>?_
 clear Y T I lx2
 go_wp2
 refine kF_ O ((J.out).aL (vw4.heap.size)) fun Wx5 I=>?_;clear O K
 clear J
 generalize vw4.heap.size=gx3 at *
 have HZ3:Hid (rhi c k=l):=lh_ (by first|exact ok|exact HAA.out|exact HA0.out|exact HL.out|exact HH.out|exact HSQ.out|exact HADD.out|exact HSUB.out|exact HSL.out|exact HHP.out|exact HKL.out|exact HKH.out|exact HLH.out|exact HNE.out|exact Rat.sub_self|exact HZL.out|exact HZH.out|exact HKQ.out)
 have su3:sz l≤17:=by have e:=HZ3.out;first|omega|(rw [← e];exact Nat.le_trans (qd8 om om) om)
 have lx2:=c0_ I
 refine ks6_ fun K O T Y=>?_
 refine tk2_ ?_
 refine ck Tryz.call25 (fun w' hw=>qb6 c l k _ (lh_ (by first|exact ok|exact HAA.out|exact HA0.out|exact HL.out|exact HH.out|exact HSQ.out|exact HADD.out|exact HSUB.out|exact HSL.out|exact HHP.out|exact HKL.out|exact HKH.out|exact HLH.out|exact HNE.out|exact Rat.sub_self|exact HZL.out|exact HZH.out|exact HKQ.out)) (lh_ HZ3.out) om om) ?_
 refine tk3_ ?_
 refine nlS Y I fun vw5 J=>?_
 clear Y T I lx2
 go_wp2
 refine kF_ O ((J.out).aL (vw5.heap.size)) fun Wx6 I=>?_;clear O K
 clear J
 generalize vw5.heap.size=gx4 at *
 have HZ4:Hid (((1 / 2:Rat)) ^ k=st):=lh_ (HST.out)
 have su4:sz st≤4:=by have e:=HZ4.out;first|omega|(rw [← e];exact qn0 om)
 refine ks2_ fun K O T Y=>?_
 refine tk ?_
 refine ck Tryz.call41 (fun w' hw=>qr3 k st _ (lh_ HZ4.out) om) ?_
 refine nlS Y I fun vw6 J=>?_
 clear Y T I
 go_wp2
 refine kF_ O ((J.out).aL (vw6.heap.size)) fun Wx7 I=>?_;clear O K
 clear J
 generalize vw6.heap.size=gx5 at *
 refine wp_seq ?_
 obtain ⟨t5,HT5⟩:∃ z,Hid (sgQ l=z):=⟨_,lh_ rfl⟩
 have ht5:0≤t5:=by rw [← HT5.out];exact sgQ_nn0 HL0.out
 have hd3:¬ (t5<0):=by first|exact ok|exact HAA.out|exact HA0.out|exact HL.out|exact HH.out|exact HSQ.out|exact HADD.out|exact HSUB.out|exact HSL.out|exact HHP.out|exact HKL.out|exact HKH.out|exact HLH.out|exact HNE.out|exact Rat.sub_self|exact HZL.out|exact HZH.out|exact HKQ.out
 have HZ6:Hid (l*(l)=c):=lh_ (by first|exact ok|exact HAA.out|exact HA0.out|exact HL.out|exact HH.out|exact HSQ.out|exact HADD.out|exact HSUB.out|exact HSL.out|exact HHP.out|exact HKL.out|exact HKH.out|exact HLH.out|exact HNE.out|exact Rat.sub_self|exact HZL.out|exact HZH.out|exact HKQ.out)
 have su6:sz c≤34:=by have e:=HZ6.out;first|omega|(rw [← e];have:=qb0 l l;omega)
 obtain ⟨u7,HZ7⟩:∃ z,Hid (l+(st)=z):=⟨_,lh_ rfl⟩
 have su7:sz u7≤22:=by rw [← HZ7.out];have:=qe0 l st;omega
 obtain ⟨u8,HZ8⟩:∃ z,Hid (u7*(u7)=z):=⟨_,lh_ rfl⟩
 have su8:sz u8≤44:=by rw [← HZ8.out];have:=qb0 u7 u7;omega
 have HZ9:Hid (l*(l)=c):=lh_ (by first|exact ok|exact HAA.out|exact HA0.out|exact HL.out|exact HH.out|exact HSQ.out|exact HADD.out|exact HSUB.out|exact HSL.out|exact HHP.out|exact HKL.out|exact HKH.out|exact HLH.out|exact HNE.out|exact Rat.sub_self|exact HZL.out|exact HZH.out|exact HKQ.out|(simp only [← HZ8.out,← HZ7.out] <;> first|exact ok|exact HAA.out|exact HA0.out|exact HL.out|exact HH.out|exact HSQ.out|exact HADD.out|exact HSUB.out|exact HSL.out|exact HHP.out|exact HKL.out|exact HKH.out|exact HLH.out|exact HNE.out|exact Rat.sub_self|exact HZL.out|exact HZH.out|exact HKQ.out))
 have su9:sz c≤34:=by have e:=HZ9.out;first|omega|(rw [← e];have:=qb0 l l;omega)
 have lx2:=c0_ I
 have lx3:=c1_ I
 have lx4:=c2_ I
 have lx5:=c3_ I
 refine kS fun K O=>?_
 refine pd0_ fun T Y=>?_
 iterate 8 refine tk ?_
 refine ck Tryz.call35 (fun w' hw=>qa5 l t5 _ HT5.out) ?_
 iterate 5 refine tk ?_
 refine ck Tryz.call37 (fun w' hw=>qa3 l c _ (lh_ HZ6.out) om) ?_
 refine ck Tryz.call38 (fun w' hw=>qa8 c c (0) _ (by have e9:(c) - c=(0:Rat):=(by first|exact ok|exact HAA.out|exact HA0.out|exact HL.out|exact HH.out|exact HSQ.out|exact HADD.out|exact HSUB.out|exact HSL.out|exact HHP.out|exact HKL.out|exact HKH.out|exact HLH.out|exact HNE.out|exact Rat.sub_self|exact HZL.out|exact HZH.out|exact HKQ.out);exact qe9 e9) om om) ?_
 iterate 6 refine tk ?_
 refine ck Tryz.call30 (fun w' hw=>qc5 l st u7 _ HZ7.out om om) ?_
 refine ck Tryz.call37 (fun w' hw=>qa3 u7 u8 _ (lh_ HZ8.out) om) ?_
 refine ck Tryz.call38 (fun w' hw=>qa8 u8 c (1) _ (by have e9:(0:Rat)<(u8) - (c):=(by simp only [← HZ8.out,← HZ7.out];exact HM1.out);exact qh9 e9) om om) ?_
 iterate 5 refine tk ?_
 refine ck Tryz.call37 (fun w' hw=>qa3 l c _ (lh_ HZ9.out) om) ?_
 refine ck Tryz.call38 (fun w' hw=>qa8 c c (0) _ (by have e9:(c) - c=(0:Rat):=(by first|exact ok|exact HAA.out|exact HA0.out|exact HL.out|exact HH.out|exact HSQ.out|exact HADD.out|exact HSUB.out|exact HSL.out|exact HHP.out|exact HKL.out|exact HKH.out|exact HLH.out|exact HNE.out|exact Rat.sub_self|exact HZL.out|exact HZH.out|exact HKQ.out|(simp only [← HZ8.out,← HZ7.out] <;> first|exact ok|exact HAA.out|exact HA0.out|exact HL.out|exact HH.out|exact HSQ.out|exact HADD.out|exact HSUB.out|exact HSL.out|exact HHP.out|exact HKL.out|exact HKH.out|exact HLH.out|exact HNE.out|exact Rat.sub_self|exact HZL.out|exact HZH.out|exact HKQ.out));exact qe9 e9) om om) ?_
 refine tk ?_
 refine nlD Y I fun vw7 J=>?_
 clear Y T I lx2 lx3 lx4 lx5
 go_wp2
 refine kO O ?_;clear O K
 have I:=J;clear J
 clear ht5 hd3
 refine wp_cond_false (by rfl) ?_
 refine wp_skip ?_
 show Code.wp _ _ _ _ _
 refine wp_seq ?_
 obtain ⟨u10,HZ10⟩:∃ z,Hid (l - st=z):=⟨_,lh_ rfl⟩
 have su10:sz u10≤22:=by rw [← HZ10.out];have:=qA8 l st;omega
 obtain ⟨u11,HZ11⟩:∃ z,Hid (u10*(u10)=z):=⟨_,lh_ rfl⟩
 have su11:sz u11≤44:=by rw [← HZ11.out];have:=qb0 u10 u10;omega
 have lx2:=c0_ I
 have lx4:=c2_ I
 have lx5:=c3_ I
 refine kS fun K O=>?_
 refine pd1_ fun T Y=>?_
 refine tk ?_
 refine ck Tryz.call35 (fun w' hw=>qa5 l (1) _ (by have e9:(0:Rat)<(l):=(by first|exact ok|exact HAA.out|exact HA0.out|exact HL.out|exact HH.out|exact HSQ.out|exact HADD.out|exact HSUB.out|exact HSL.out|exact HHP.out|exact HKL.out|exact HKH.out|exact HLH.out|exact HNE.out|exact Rat.sub_self|exact HZL.out|exact HZH.out|exact HKQ.out|(simp only [← HZ8.out,← HZ7.out] <;> first|exact ok|exact HAA.out|exact HA0.out|exact HL.out|exact HH.out|exact HSQ.out|exact HADD.out|exact HSUB.out|exact HSL.out|exact HHP.out|exact HKL.out|exact HKH.out|exact HLH.out|exact HNE.out|exact Rat.sub_self|exact HZL.out|exact HZH.out|exact HKQ.out));exact qh9 e9)) ?_
 iterate 5 refine tk ?_
 refine ck Tryz.call42 (fun w' hw=>qp7 l st u10 _ HZ10.out om om) ?_
 refine ck Tryz.call37 (fun w' hw=>qa3 u10 u11 _ (lh_ HZ11.out) om) ?_
 refine ck Tryz.call38 (fun w' hw=>qa8 u11 c (-1) _ (by have e9:(u11) - c<(0:Rat):=(by simp only [← HZ11.out,← HZ10.out,← HZ8.out,← HZ7.out];exact HM2.out);exact qf5 e9) om om) ?_
 refine tk ?_
 refine nlD Y I fun vw8 J=>?_
 clear Y T I lx2 lx4 lx5
 go_wp2
 refine kO O ?_;clear O K
 have I:=J;clear J
 refine wp_cond_false (by rfl) ?_
 refine wp_skip ?_
 show Code.wp _ _ _ _ _
 have HZ12:Hid (l / st=kl):=lh_ (HKQ.out)
 have su12:sz kl≤40:=by have e:=HZ12.out;first|omega|(rw [← e];have:=qr8 l st;omega)
 have lx3:=c1_ I
 have lx5:=c3_ I
 refine ks6_ fun K O T Y=>?_
 refine tk2_ ?_
 refine ck Tryz.call43 (fun w' hw=>ql0 l st kl _ HZ12.out (by exact HST0.out) om om) ?_
 refine tk3_ ?_
 refine nlS Y I fun vw9 J=>?_
 clear Y T I lx3 lx5
 go_wp2
 refine kF_ O ((J.out).aL (vw9.heap.size)) fun Wx12 I=>?_;clear O K
 clear J
 generalize vw9.heap.size=gx6 at *
 have HZ13:Hid (l / st=kl):=lh_ (by first|exact ok|exact HAA.out|exact HA0.out|exact HL.out|exact HH.out|exact HSQ.out|exact HADD.out|exact HSUB.out|exact HSL.out|exact HHP.out|exact HKL.out|exact HKH.out|exact HLH.out|exact HNE.out|exact Rat.sub_self|exact HZL.out|exact HZH.out|exact HKQ.out|(simp only [← HZ11.out,← HZ10.out,← HZ8.out,← HZ7.out] <;> first|exact ok|exact HAA.out|exact HA0.out|exact HL.out|exact HH.out|exact HSQ.out|exact HADD.out|exact HSUB.out|exact HSL.out|exact HHP.out|exact HKL.out|exact HKH.out|exact HLH.out|exact HNE.out|exact Rat.sub_self|exact HZL.out|exact HZH.out|exact HKQ.out))
 have su13:sz kl≤21:=by have e:=HZ13.out;first|omega|(rw [← e];have:=qr8 l st;omega)
 have lx4:=c2_ I
 have lx5:=c3_ I
 refine ks6_ fun K O T Y=>?_
 refine tk2_ ?_
 refine ck Tryz.call43 (fun w' hw=>ql0 l st kl _ HZ13.out (by exact HST0.out) om om) ?_
 refine tk3_ ?_
 refine nlS Y I fun vw10 J=>?_
 clear Y T I lx4 lx5
 go_wp2
 refine kF_ O ((J.out).aL (vw10.heap.size)) fun Wx13 I=>?_;clear O K
 clear J
 generalize vw10.heap.size=gx7 at *
 have HZ14:Hid (l*(l)=c):=lh_ (by first|exact ok|exact HAA.out|exact HA0.out|exact HL.out|exact HH.out|exact HSQ.out|exact HADD.out|exact HSUB.out|exact HSL.out|exact HHP.out|exact HKL.out|exact HKH.out|exact HLH.out|exact HNE.out|exact Rat.sub_self|exact HZL.out|exact HZH.out|exact HKQ.out|(simp only [← HZ11.out,← HZ10.out,← HZ8.out,← HZ7.out] <;> first|exact ok|exact HAA.out|exact HA0.out|exact HL.out|exact HH.out|exact HSQ.out|exact HADD.out|exact HSUB.out|exact HSL.out|exact HHP.out|exact HKL.out|exact HKH.out|exact HLH.out|exact HNE.out|exact Rat.sub_self|exact HZL.out|exact HZH.out|exact HKQ.out))
 have su14:sz c≤34:=by have e:=HZ14.out;first|omega|(rw [← e];have:=qb0 l l;omega)
 have lx2:=c0_ I
 have lx3:=c1_ I
 refine kS fun K O=>?_
 refine pd2_ fun T Y=>?_
 refine tk2_ ?_
 refine ck Tryz.call37 (fun w' hw=>qa3 l c _ (lh_ HZ14.out) om) ?_
 refine tk ?_
 refine nlD Y I fun vw11 J=>?_
 clear Y T I lx2 lx3
 go_wp2
 refine kF_ O ((J.out).er 0) fun Wx14 I=>?_;clear O K
 clear J
 have HB:=HPb I
 have lx3:=c0_ I
 have lx4:=c1_ I
 have lx5:=c2_ I
 have lx6:=c3_ I
 have lx7:=c4_ I
 refine kS fun K O=>?_
 refine pd3_ fun T Y=>?_
 iterate 8 refine tk ?_
 refine ck Tryz.call44 (fun w' hw=>qb_ kl true _ (decide_eq_true (by first|exact ok|exact HAA.out|exact HA0.out|exact HL.out|exact HH.out|exact HSQ.out|exact HADD.out|exact HSUB.out|exact HSL.out|exact HHP.out|exact HKL.out|exact HKH.out|exact HLH.out|exact HNE.out|exact Rat.sub_self|exact HZL.out|exact HZH.out|exact HKQ.out|(simp only [← HZ11.out,← HZ10.out,← HZ8.out,← HZ7.out] <;> first|exact ok|exact HAA.out|exact HA0.out|exact HL.out|exact HH.out|exact HSQ.out|exact HADD.out|exact HSUB.out|exact HSL.out|exact HHP.out|exact HKL.out|exact HKH.out|exact HLH.out|exact HNE.out|exact Rat.sub_self|exact HZL.out|exact HZH.out|exact HKQ.out)))) ?_
 refine tk3_ ?_
 refine ck Tryz.call44 (fun w' hw=>qb_ kl true _ (decide_eq_true (by first|exact ok|exact HAA.out|exact HA0.out|exact HL.out|exact HH.out|exact HSQ.out|exact HADD.out|exact HSUB.out|exact HSL.out|exact HHP.out|exact HKL.out|exact HKH.out|exact HLH.out|exact HNE.out|exact Rat.sub_self|exact HZL.out|exact HZH.out|exact HKQ.out|(simp only [← HZ11.out,← HZ10.out,← HZ8.out,← HZ7.out] <;> first|exact ok|exact HAA.out|exact HA0.out|exact HL.out|exact HH.out|exact HSQ.out|exact HADD.out|exact HSUB.out|exact HSL.out|exact HHP.out|exact HKL.out|exact HKH.out|exact HLH.out|exact HNE.out|exact Rat.sub_self|exact HZL.out|exact HZH.out|exact HKQ.out)))) ?_
 iterate 11 refine tk ?_
 iterate 5 refine sk ?_
 refine tk3_ ?_
 refine ck Tryz.call22 (fun w' hw=>qa6 _ (lh_ (HT.out.gr (Gr.trans HB.out hw)))) ?_
 refine tk ?_
 refine nlD Y I fun vw12 J=>?_
 clear Y T I lx3 lx4 lx5 lx6 lx7 HB
 go_wp2
 refine kF_ O ((((((J.out).er 4).er 3).er 2).er 1).er 0) fun Wx15 I=>?_;clear O K
 clear J
 refine wp_ret ?_
 try simp only [Exit.then,Exit.inBlock]
 exact bodyPost_ret (v:=.bool true) (by simp [results,Tryz.results9,go_sem]) rfl ⟨rfl,I.out.1⟩
theorem xD9 (bbxn:Bool) (vxn:Value) (kxn:Nat) (fxn:Nat→Nat) (mxn:Nat) (ixn:Int) (vxd:Value) (kxd:Nat) (fxd:Nat→Nat) (mxd:Nat) (n:Int) (k:Nat) (st:Rat) (w:World) (HWxn:Hid (Wa w vxn kxn fxn)) (HFxn:Hid (∀ i,i<kxn→fxn i<4294967296)) (HVxn:Hid (vl fxn kxn=mxn)) (HAxn:Hid ((if bbxn then -((mxn:Nat):Int) else ((mxn:Nat):Int))=ixn)) (HWxd:Hid (Wa w vxd kxd fxd)) (HFxd:Hid (∀ i,i<kxd→fxd i<4294967296)) (HVxd:Hid (vl fxd kxd=mxd)) (HQx:Hid (mkRat ixn (mxd+1)=(0:Rat))) (hkxn:kxn≤6) (hkxd:kxd≤6) (hm1:0≤n) (hm2:n≤255) (HMk:Hid (Int.tmod n 101=(k:Int))) (hk:k≤100) (HST:Hid (((1 / 2:Rat)) ^ k=st)) (HST0:Hid (st≠0)) (HZL:Hid (rlo (0:Rat) k=0)) (HZH:Hid (rhi (0:Rat) k=0)) (HM1:Hid (0<st*st - (0:Rat))) (HT:Hid (Tab w)) :
  Calls Tryz.prog 9 #[.agg #[.bool bbxn,vxn,vxd],.int .u8 n] w fun e w'=>e=.returned (.bool true)∧Below w.heap.size w w':=by
 obtain ⟨ao_xn,c_xn,rfl⟩:=HWxn.out.slice
 obtain ⟨ao_xd,c_xd,rfl⟩:=HWxd.out.slice
 have hm_xn:wl mxn≤6:=by rw [← HVxn.out];have:=qa4.2 (qf7 HFxn.out);omega
 have hm_xd:wl mxd≤6:=by rw [← HVxd.out];have:=qa4.2 (qf7 HFxd.out);omega
 have hi_x:wl (Int.natAbs ixn)≤6:=by rw [qn9 HAxn.out];exact hm_xn
 have hs_x:sz (0:Rat)≤7:=by rw [← HQx.out];exact qf6 hi_x hm_xd
 have hr_x:rz (0:Rat)≤21:=by rw [← HQx.out];exact qh1 hi_x hm_xd (by decide)
 have hwn:IntKind.i64.wrap n=n:=by rw [IntKind.wrap_i64];omega
 go_enter Tryz.func9,Tryz.ntmps9
 have I:=lh_ (hp0 w)
 refine kS fun K O=>?_
 refine wp_region_lit ?_
 go_wp2
 refine kF_ O ((I.out).aL (w.heap.size)) fun Wx0 J=>?_;clear O K
 clear I;have I:=J;clear J
 refine wp_seq ?_
 have hd1:¬ (6<((kxn:Int))):=by first|exact ok|exact HAA.out|exact HA0.out|exact HL.out|exact HH.out|exact HSQ.out|exact HADD.out|exact HSUB.out|exact HSL.out|exact HHP.out|exact HKL.out|exact HKH.out|exact HLH.out|exact HNE.out|exact Rat.sub_self|exact HZL.out|exact HZH.out|decide +kernel|exact Rat.zero_add _|exact Rat.zero_div _|exact Rat.le_refl
 have hd2:¬ (6<((kxd:Int))):=by first|exact ok|exact HAA.out|exact HA0.out|exact HL.out|exact HH.out|exact HSQ.out|exact HADD.out|exact HSUB.out|exact HSL.out|exact HHP.out|exact HKL.out|exact HKH.out|exact HLH.out|exact HNE.out|exact Rat.sub_self|exact HZL.out|exact HZH.out|decide +kernel|exact Rat.zero_add _|exact Rat.zero_div _|exact Rat.le_refl
 have lx0:=c0_ I
 refine ql9 fun K O T Y=>?_
 iterate 11 refine tk ?_
 refine nlS Y I fun vw1 J=>?_
 clear Y T I lx0
 go_wp2
 refine kO O ?_;clear O K
 have I:=J;clear J
 clear hd1 hd2
 refine wp_cond_false (by rfl) ?_
 refine wp_skip ?_
 show Code.wp _ _ _ _ _
 have hrmk_2:Int.tmod n 101=(k:Int):=HMk.out
 refine ks4_ fun K O T Y=>?_
 iterate 4 refine tk ?_
 refine nlS Y I fun vw2 J=>?_
 clear Y T I
 go_wp2
 refine kO O ?_;clear O K
 have I:=J;clear J
 clear hrmk_2
 have HB:=HPb I
 have HZ1:Hid (qabs (0:Rat)=(0:Rat)):=lh_ (by first|exact ok|exact HAA.out|exact HA0.out|exact HL.out|exact HH.out|exact HSQ.out|exact HADD.out|exact HSUB.out|exact HSL.out|exact HHP.out|exact HKL.out|exact HKH.out|exact HLH.out|exact HNE.out|exact Rat.sub_self|exact HZL.out|exact HZH.out|decide +kernel|exact Rat.zero_add _|exact Rat.zero_div _|exact Rat.le_refl)
 have su1:sz ((0:Rat))≤7:=by have e:=HZ1.out;first|omega|(rw [← e];rw [qc8];omega)
 have lx0:=c0_ I
 refine ks3_ fun K O T Y=>?_
 refine tk ?_
 refine ck Tryz.call36 (fun w' hw=>qj8 bbxn kxn fxn mxn ixn kxd fxd mxd (0:Rat) ao_xn c_xn ao_xd c_xd w' (lh_ (HWxn.out.gr (Gr.trans HB.out hw))) HFxn HVxn HAxn (lh_ (HWxd.out.gr (Gr.trans HB.out hw))) HFxd HVxd HQx om om om om) ?_
 refine ck Tryz.call31 (fun w' hw=>qd0 (0:Rat) (0:Rat) _ HZ1.out) ?_
 refine nlS Y I fun vw3 J=>?_
 clear Y T I lx0 HB
 go_wp2
 refine kF_ O (((J.out).aL (vw3.heap.size)).er 0) fun Wx4 I=>?_;clear O K
 clear J
 generalize vw3.heap.size=gx2 at *
 have HZ2:Hid (rlo (0:Rat) k=(0:Rat)):=lh_ (by first|exact ok|exact HAA.out|exact HA0.out|exact HL.out|exact HH.out|exact HSQ.out|exact HADD.out|exact HSUB.out|exact HSL.out|exact HHP.out|exact HKL.out|exact HKH.out|exact HLH.out|exact HNE.out|exact Rat.sub_self|exact HZL.out|exact HZH.out|decide +kernel|exact Rat.zero_add _|exact Rat.zero_div _|exact Rat.le_refl)
 have su2:sz ((0:Rat))≤17:=by have e:=HZ2.out;first|omega|(rw [← e];exact Nat.le_trans (qd2 om om) om)
 have lx2:=c0_ I
 refine ks6_ fun K O T Y=>?_
 refine tk2_ ?_
 refine ck Tryz.call23 (fun w' hw=>qb1 (0:Rat) (0:Rat) k _ (lh_ (by first|exact ok|exact HAA.out|exact HA0.out|exact HL.out|exact HH.out|exact HSQ.out|exact HADD.out|exact HSUB.out|exact HSL.out|exact HHP.out|exact HKL.out|exact HKH.out|exact HLH.out|exact HNE.out|exact Rat.sub_self|exact HZL.out|exact HZH.out|decide +kernel|exact Rat.zero_add _|exact Rat.zero_div _|exact Rat.le_refl)) (lh_ HZ2.out) om om) ?_
 refine tk3_ ?_
 refine nlS Y I fun vw4 J=>?_
 clear Y T I lx2
 go_wp2
 refine kF_ O ((J.out).aL (vw4.heap.size)) fun Wx5 I=>?_;clear O K
 clear J
 generalize vw4.heap.size=gx3 at *
 have HZ3:Hid (rhi (0:Rat) k=(0:Rat)):=lh_ (by first|exact ok|exact HAA.out|exact HA0.out|exact HL.out|exact HH.out|exact HSQ.out|exact HADD.out|exact HSUB.out|exact HSL.out|exact HHP.out|exact HKL.out|exact HKH.out|exact HLH.out|exact HNE.out|exact Rat.sub_self|exact HZL.out|exact HZH.out|decide +kernel|exact Rat.zero_add _|exact Rat.zero_div _|exact Rat.le_refl)
 have su3:sz ((0:Rat))≤17:=by have e:=HZ3.out;first|omega|(rw [← e];exact Nat.le_trans (qd8 om om) om)
 have lx2:=c0_ I
 refine ks6_ fun K O T Y=>?_
 refine tk2_ ?_
 refine ck Tryz.call25 (fun w' hw=>qb6 (0:Rat) (0:Rat) k _ (lh_ (by first|exact ok|exact HAA.out|exact HA0.out|exact HL.out|exact HH.out|exact HSQ.out|exact HADD.out|exact HSUB.out|exact HSL.out|exact HHP.out|exact HKL.out|exact HKH.out|exact HLH.out|exact HNE.out|exact Rat.sub_self|exact HZL.out|exact HZH.out|decide +kernel|exact Rat.zero_add _|exact Rat.zero_div _|exact Rat.le_refl)) (lh_ HZ3.out) om om) ?_
 refine tk3_ ?_
 refine nlS Y I fun vw5 J=>?_
 clear Y T I lx2
 go_wp2
 refine kF_ O ((J.out).aL (vw5.heap.size)) fun Wx6 I=>?_;clear O K
 clear J
 generalize vw5.heap.size=gx4 at *
 have HZ4:Hid (((1 / 2:Rat)) ^ k=st):=lh_ (HST.out)
 have su4:sz st≤4:=by have e:=HZ4.out;first|omega|(rw [← e];exact qn0 om)
 refine ks2_ fun K O T Y=>?_
 refine tk ?_
 refine ck Tryz.call41 (fun w' hw=>qr3 k st _ (lh_ HZ4.out) om) ?_
 refine nlS Y I fun vw6 J=>?_
 clear Y T I
 go_wp2
 refine kF_ O ((J.out).aL (vw6.heap.size)) fun Wx7 I=>?_;clear O K
 clear J
 generalize vw6.heap.size=gx5 at *
 refine wp_seq ?_
 have HZ5:Hid ((0:Rat)*(0:Rat)=(0:Rat)):=lh_ (by first|exact ok|exact HAA.out|exact HA0.out|exact HL.out|exact HH.out|exact HSQ.out|exact HADD.out|exact HSUB.out|exact HSL.out|exact HHP.out|exact HKL.out|exact HKH.out|exact HLH.out|exact HNE.out|exact Rat.sub_self|exact HZL.out|exact HZH.out|decide +kernel|exact Rat.zero_add _|exact Rat.zero_div _|exact Rat.le_refl)
 have su5:sz ((0:Rat))≤34:=by have e:=HZ5.out;first|omega|(rw [← e];have:=qb0 (0:Rat) (0:Rat);omega)
 have HZ6:Hid ((0:Rat)+(st)=st):=lh_ (by first|exact ok|exact HAA.out|exact HA0.out|exact HL.out|exact HH.out|exact HSQ.out|exact HADD.out|exact HSUB.out|exact HSL.out|exact HHP.out|exact HKL.out|exact HKH.out|exact HLH.out|exact HNE.out|exact Rat.sub_self|exact HZL.out|exact HZH.out|decide +kernel|exact Rat.zero_add _|exact Rat.zero_div _|exact Rat.le_refl)
 have su6:sz st≤22:=by have e:=HZ6.out;first|omega|(rw [← e];have:=qe0 (0:Rat) st;omega)
 obtain ⟨u7,HZ7⟩:∃ z,Hid (st*(st)=z):=⟨_,lh_ rfl⟩
 have su7:sz u7≤44:=by rw [← HZ7.out];have:=qb0 st st;omega
 have HZ8:Hid ((0:Rat)*(0:Rat)=(0:Rat)):=lh_ (by first|exact ok|exact HAA.out|exact HA0.out|exact HL.out|exact HH.out|exact HSQ.out|exact HADD.out|exact HSUB.out|exact HSL.out|exact HHP.out|exact HKL.out|exact HKH.out|exact HLH.out|exact HNE.out|exact Rat.sub_self|exact HZL.out|exact HZH.out|decide +kernel|exact Rat.zero_add _|exact Rat.zero_div _|exact Rat.le_refl|(simp only [← HZ7.out] <;> first|exact ok|exact HAA.out|exact HA0.out|exact HL.out|exact HH.out|exact HSQ.out|exact HADD.out|exact HSUB.out|exact HSL.out|exact HHP.out|exact HKL.out|exact HKH.out|exact HLH.out|exact HNE.out|exact Rat.sub_self|exact HZL.out|exact HZH.out|decide +kernel|exact Rat.zero_add _|exact Rat.zero_div _|exact Rat.le_refl))
 have su8:sz ((0:Rat))≤34:=by have e:=HZ8.out;first|omega|(rw [← e];have:=qb0 (0:Rat) (0:Rat);omega)
 have lx2:=c0_ I
 have lx3:=c1_ I
 have lx4:=c2_ I
 have lx5:=c3_ I
 refine kS fun K O=>?_
 refine pd0_ fun T Y=>?_
 iterate 8 refine tk ?_
 refine ck Tryz.call35 (fun w' hw=>qa5 (0:Rat) (0) _ (by have e9:(0:Rat)=(0:Rat):=(by first|exact ok|exact HAA.out|exact HA0.out|exact HL.out|exact HH.out|exact HSQ.out|exact HADD.out|exact HSUB.out|exact HSL.out|exact HHP.out|exact HKL.out|exact HKH.out|exact HLH.out|exact HNE.out|exact Rat.sub_self|exact HZL.out|exact HZH.out|decide +kernel|exact Rat.zero_add _|exact Rat.zero_div _|exact Rat.le_refl);exact qe9 e9)) ?_
 iterate 5 refine tk ?_
 refine ck Tryz.call37 (fun w' hw=>qa3 (0:Rat) (0:Rat) _ (lh_ HZ5.out) om) ?_
 refine ck Tryz.call38 (fun w' hw=>qa8 (0:Rat) (0:Rat) (0) _ (by have e9:(0:Rat) - (0:Rat)=(0:Rat):=(by first|exact ok|exact HAA.out|exact HA0.out|exact HL.out|exact HH.out|exact HSQ.out|exact HADD.out|exact HSUB.out|exact HSL.out|exact HHP.out|exact HKL.out|exact HKH.out|exact HLH.out|exact HNE.out|exact Rat.sub_self|exact HZL.out|exact HZH.out|decide +kernel|exact Rat.zero_add _|exact Rat.zero_div _|exact Rat.le_refl);exact qe9 e9) om om) ?_
 iterate 6 refine tk ?_
 refine ck Tryz.call30 (fun w' hw=>qc5 (0:Rat) st st _ HZ6.out om om) ?_
 refine ck Tryz.call37 (fun w' hw=>qa3 st u7 _ (lh_ HZ7.out) om) ?_
 refine ck Tryz.call38 (fun w' hw=>qa8 u7 (0:Rat) (1) _ (by have e9:(0:Rat)<(u7) - (0:Rat):=(by simp only [← HZ7.out];exact HM1.out);exact qh9 e9) om om) ?_
 iterate 5 refine tk ?_
 refine ck Tryz.call37 (fun w' hw=>qa3 (0:Rat) (0:Rat) _ (lh_ HZ8.out) om) ?_
 refine ck Tryz.call38 (fun w' hw=>qa8 (0:Rat) (0:Rat) (0) _ (by have e9:(0:Rat) - (0:Rat)=(0:Rat):=(by first|exact ok|exact HAA.out|exact HA0.out|exact HL.out|exact HH.out|exact HSQ.out|exact HADD.out|exact HSUB.out|exact HSL.out|exact HHP.out|exact HKL.out|exact HKH.out|exact HLH.out|exact HNE.out|exact Rat.sub_self|exact HZL.out|exact HZH.out|decide +kernel|exact Rat.zero_add _|exact Rat.zero_div _|exact Rat.le_refl|(simp only [← HZ7.out] <;> first|exact ok|exact HAA.out|exact HA0.out|exact HL.out|exact HH.out|exact HSQ.out|exact HADD.out|exact HSUB.out|exact HSL.out|exact HHP.out|exact HKL.out|exact HKH.out|exact HLH.out|exact HNE.out|exact Rat.sub_self|exact HZL.out|exact HZH.out|decide +kernel|exact Rat.zero_add _|exact Rat.zero_div _|exact Rat.le_refl));exact qe9 e9) om om) ?_
 refine tk ?_
 refine nlD Y I fun vw7 J=>?_
 clear Y T I lx2 lx3 lx4 lx5
 go_wp2
 refine kO O ?_;clear O K
 have I:=J;clear J
 refine wp_cond_false (by rfl) ?_
 refine wp_skip ?_
 show Code.wp _ _ _ _ _
 refine wp_seq ?_
 have lx2:=c0_ I
 have lx4:=c2_ I
 have lx5:=c3_ I
 refine kS fun K O=>?_
 refine pd1_ fun T Y=>?_
 refine tk ?_
 refine ck Tryz.call35 (fun w' hw=>qa5 (0:Rat) (0) _ (by have e9:(0:Rat)=(0:Rat):=(by first|exact ok|exact HAA.out|exact HA0.out|exact HL.out|exact HH.out|exact HSQ.out|exact HADD.out|exact HSUB.out|exact HSL.out|exact HHP.out|exact HKL.out|exact HKH.out|exact HLH.out|exact HNE.out|exact Rat.sub_self|exact HZL.out|exact HZH.out|decide +kernel|exact Rat.zero_add _|exact Rat.zero_div _|exact Rat.le_refl|(simp only [← HZ7.out] <;> first|exact ok|exact HAA.out|exact HA0.out|exact HL.out|exact HH.out|exact HSQ.out|exact HADD.out|exact HSUB.out|exact HSL.out|exact HHP.out|exact HKL.out|exact HKH.out|exact HLH.out|exact HNE.out|exact Rat.sub_self|exact HZL.out|exact HZH.out|decide +kernel|exact Rat.zero_add _|exact Rat.zero_div _|exact Rat.le_refl));exact qe9 e9)) ?_
 refine tk2_ ?_
 iterate 7 refine sk ?_
 refine nlD Y I fun vw8 J=>?_
 clear Y T I lx2 lx4 lx5
 go_wp2
 refine kO O ?_;clear O K
 have I:=J;clear J
 refine wp_cond_false (by rfl) ?_
 refine wp_skip ?_
 show Code.wp _ _ _ _ _
 have HZ9:Hid ((0:Rat) / st=(0:Rat)):=lh_ (by first|exact ok|exact HAA.out|exact HA0.out|exact HL.out|exact HH.out|exact HSQ.out|exact HADD.out|exact HSUB.out|exact HSL.out|exact HHP.out|exact HKL.out|exact HKH.out|exact HLH.out|exact HNE.out|exact Rat.sub_self|exact HZL.out|exact HZH.out|decide +kernel|exact Rat.zero_add _|exact Rat.zero_div _|exact Rat.le_refl|(simp only [← HZ7.out] <;> first|exact ok|exact HAA.out|exact HA0.out|exact HL.out|exact HH.out|exact HSQ.out|exact HADD.out|exact HSUB.out|exact HSL.out|exact HHP.out|exact HKL.out|exact HKH.out|exact HLH.out|exact HNE.out|exact Rat.sub_self|exact HZL.out|exact HZH.out|decide +kernel|exact Rat.zero_add _|exact Rat.zero_div _|exact Rat.le_refl))
 have su9:sz ((0:Rat))≤21:=by have e:=HZ9.out;first|omega|(rw [← e];have:=qr8 (0:Rat) st;omega)
 have lx3:=c1_ I
 have lx5:=c3_ I
 refine ks6_ fun K O T Y=>?_
 refine tk2_ ?_
 refine ck Tryz.call43 (fun w' hw=>ql0 (0:Rat) st (0:Rat) _ HZ9.out (by exact HST0.out) om om) ?_
 refine tk3_ ?_
 refine nlS Y I fun vw9 J=>?_
 clear Y T I lx3 lx5
 go_wp2
 refine kF_ O ((J.out).aL (vw9.heap.size)) fun Wx12 I=>?_;clear O K
 clear J
 generalize vw9.heap.size=gx6 at *
 have HZ10:Hid ((0:Rat) / st=(0:Rat)):=lh_ (by first|exact ok|exact HAA.out|exact HA0.out|exact HL.out|exact HH.out|exact HSQ.out|exact HADD.out|exact HSUB.out|exact HSL.out|exact HHP.out|exact HKL.out|exact HKH.out|exact HLH.out|exact HNE.out|exact Rat.sub_self|exact HZL.out|exact HZH.out|decide +kernel|exact Rat.zero_add _|exact Rat.zero_div _|exact Rat.le_refl|(simp only [← HZ7.out] <;> first|exact ok|exact HAA.out|exact HA0.out|exact HL.out|exact HH.out|exact HSQ.out|exact HADD.out|exact HSUB.out|exact HSL.out|exact HHP.out|exact HKL.out|exact HKH.out|exact HLH.out|exact HNE.out|exact Rat.sub_self|exact HZL.out|exact HZH.out|decide +kernel|exact Rat.zero_add _|exact Rat.zero_div _|exact Rat.le_refl))
 have su10:sz ((0:Rat))≤21:=by have e:=HZ10.out;first|omega|(rw [← e];have:=qr8 (0:Rat) st;omega)
 have lx4:=c2_ I
 have lx5:=c3_ I
 refine ks6_ fun K O T Y=>?_
 refine tk2_ ?_
 refine ck Tryz.call43 (fun w' hw=>ql0 (0:Rat) st (0:Rat) _ HZ10.out (by exact HST0.out) om om) ?_
 refine tk3_ ?_
 refine nlS Y I fun vw10 J=>?_
 clear Y T I lx4 lx5
 go_wp2
 refine kF_ O ((J.out).aL (vw10.heap.size)) fun Wx13 I=>?_;clear O K
 clear J
 generalize vw10.heap.size=gx7 at *
 have HZ11:Hid ((0:Rat)*(0:Rat)=(0:Rat)):=lh_ (by first|exact ok|exact HAA.out|exact HA0.out|exact HL.out|exact HH.out|exact HSQ.out|exact HADD.out|exact HSUB.out|exact HSL.out|exact HHP.out|exact HKL.out|exact HKH.out|exact HLH.out|exact HNE.out|exact Rat.sub_self|exact HZL.out|exact HZH.out|decide +kernel|exact Rat.zero_add _|exact Rat.zero_div _|exact Rat.le_refl|(simp only [← HZ7.out] <;> first|exact ok|exact HAA.out|exact HA0.out|exact HL.out|exact HH.out|exact HSQ.out|exact HADD.out|exact HSUB.out|exact HSL.out|exact HHP.out|exact HKL.out|exact HKH.out|exact HLH.out|exact HNE.out|exact Rat.sub_self|exact HZL.out|exact HZH.out|decide +kernel|exact Rat.zero_add _|exact Rat.zero_div _|exact Rat.le_refl))
 have su11:sz ((0:Rat))≤34:=by have e:=HZ11.out;first|omega|(rw [← e];have:=qb0 (0:Rat) (0:Rat);omega)
 have lx2:=c0_ I
 have lx3:=c1_ I
 refine kS fun K O=>?_
 refine pd2_ fun T Y=>?_
 refine tk2_ ?_
 refine ck Tryz.call37 (fun w' hw=>qa3 (0:Rat) (0:Rat) _ (lh_ HZ11.out) om) ?_
 refine tk ?_
 refine nlD Y I fun vw11 J=>?_
 clear Y T I lx2 lx3
 go_wp2
 refine kF_ O ((J.out).er 0) fun Wx14 I=>?_;clear O K
 clear J
 have HB:=HPb I
 have lx3:=c0_ I
 have lx4:=c1_ I
 have lx5:=c2_ I
 have lx6:=c3_ I
 have lx7:=c4_ I
 refine kS fun K O=>?_
 refine pd3_ fun T Y=>?_
 iterate 8 refine tk ?_
 refine ck Tryz.call44 (fun w' hw=>qb_ (0:Rat) true _ (decide_eq_true (by first|exact ok|exact HAA.out|exact HA0.out|exact HL.out|exact HH.out|exact HSQ.out|exact HADD.out|exact HSUB.out|exact HSL.out|exact HHP.out|exact HKL.out|exact HKH.out|exact HLH.out|exact HNE.out|exact Rat.sub_self|exact HZL.out|exact HZH.out|decide +kernel|exact Rat.zero_add _|exact Rat.zero_div _|exact Rat.le_refl|(simp only [← HZ7.out] <;> first|exact ok|exact HAA.out|exact HA0.out|exact HL.out|exact HH.out|exact HSQ.out|exact HADD.out|exact HSUB.out|exact HSL.out|exact HHP.out|exact HKL.out|exact HKH.out|exact HLH.out|exact HNE.out|exact Rat.sub_self|exact HZL.out|exact HZH.out|decide +kernel|exact Rat.zero_add _|exact Rat.zero_div _|exact Rat.le_refl)))) ?_
 refine tk3_ ?_
 refine ck Tryz.call44 (fun w' hw=>qb_ (0:Rat) true _ (decide_eq_true (by first|exact ok|exact HAA.out|exact HA0.out|exact HL.out|exact HH.out|exact HSQ.out|exact HADD.out|exact HSUB.out|exact HSL.out|exact HHP.out|exact HKL.out|exact HKH.out|exact HLH.out|exact HNE.out|exact Rat.sub_self|exact HZL.out|exact HZH.out|decide +kernel|exact Rat.zero_add _|exact Rat.zero_div _|exact Rat.le_refl|(simp only [← HZ7.out] <;> first|exact ok|exact HAA.out|exact HA0.out|exact HL.out|exact HH.out|exact HSQ.out|exact HADD.out|exact HSUB.out|exact HSL.out|exact HHP.out|exact HKL.out|exact HKH.out|exact HLH.out|exact HNE.out|exact Rat.sub_self|exact HZL.out|exact HZH.out|decide +kernel|exact Rat.zero_add _|exact Rat.zero_div _|exact Rat.le_refl)))) ?_
 iterate 11 refine tk ?_
 iterate 5 refine sk ?_
 refine tk3_ ?_
 refine ck Tryz.call22 (fun w' hw=>qa6 _ (lh_ (HT.out.gr (Gr.trans HB.out hw)))) ?_
 refine tk ?_
 refine nlD Y I fun vw12 J=>?_
 clear Y T I lx3 lx4 lx5 lx6 lx7 HB
 go_wp2
 refine kF_ O ((((((J.out).er 4).er 3).er 2).er 1).er 0) fun Wx15 I=>?_;clear O K
 clear J
 refine wp_ret ?_
 try simp only [Exit.then,Exit.inBlock]
 exact bodyPost_ret (v:=.bool true) (by simp [results,Tryz.results9,go_sem]) rfl ⟨rfl,I.out.1⟩
theorem xe1 (bbxn:Bool) (vxn:Value) (kxn:Nat) (fxn:Nat→Nat) (mxn:Nat) (ixn:Int) (vxd:Value) (kxd:Nat) (fxd:Nat→Nat) (mxd:Nat) (a:Rat) (n:Int) (w:World) (HWxn:Hid (Wa w vxn kxn fxn)) (HFxn:Hid (∀ i,i<kxn→fxn i<4294967296)) (HVxn:Hid (vl fxn kxn=mxn)) (HAxn:Hid ((if bbxn then -((mxn:Nat):Int) else ((mxn:Nat):Int))=ixn)) (HWxd:Hid (Wa w vxd kxd fxd)) (HFxd:Hid (∀ i,i<kxd→fxd i<4294967296)) (HVxd:Hid (vl fxd kxd=mxd)) (HQx:Hid (mkRat ixn (mxd+1)=a))  (hkxn:6<kxn) (HT:Hid (Tab w)) :
  Calls Tryz.prog 9 #[.agg #[.bool bbxn,vxn,vxd],.int .u8 n] w fun e w'=>e=.returned (.bool true)∧Below w.heap.size w w':=by
 obtain ⟨ao_xn,c_xn,rfl⟩:=HWxn.out.slice
 obtain ⟨ao_xd,c_xd,rfl⟩:=HWxd.out.slice
 go_enter Tryz.func9,Tryz.ntmps9
 have I:=lh_ (hp0 w)
 refine kS fun K O=>?_
 refine wp_region_lit ?_
 go_wp2
 refine kF_ O ((I.out).aL (w.heap.size)) fun Wx0 J=>?_;clear O K
 clear I;have I:=J;clear J
 refine wp_seq ?_
 have hd1:6<((kxn:Int)):=ok
 have lx0:=c0_ I
 refine ql9 fun K O T Y=>?_
 iterate 6 refine tk ?_
 iterate 4 refine sk ?_
 refine tk ?_
 refine nlS Y I fun vw1 J=>?_
 clear Y T I lx0
 go_wp2
 refine kO O ?_;clear O K
 have I:=J;clear J
 clear hd1
 refine wp_cond_true (by rfl) ?_
 have HB:=HPb I
 refine ks2_ fun K O T Y=>?_
 refine ck Tryz.call22 (fun w' hw=>qa6 _ (lh_ (HT.out.gr (Gr.trans HB.out hw)))) ?_
 refine tk ?_
 refine nlS Y I fun vw2 J=>?_
 clear Y T I HB
 go_wp2
 refine kO O ?_;clear O K
 have I:=J;clear J
 refine wp_ret ?_
 try simp only [Exit.then,Exit.inBlock]
 exact bodyPost_ret (v:=.bool true) (by simp [results,Tryz.results9,go_sem]) rfl ⟨rfl,I.out.1⟩
theorem xd5 (bbxn:Bool) (vxn:Value) (kxn:Nat) (fxn:Nat→Nat) (mxn:Nat) (ixn:Int) (vxd:Value) (kxd:Nat) (fxd:Nat→Nat) (mxd:Nat) (a:Rat) (n:Int) (w:World) (HWxn:Hid (Wa w vxn kxn fxn)) (HFxn:Hid (∀ i,i<kxn→fxn i<4294967296)) (HVxn:Hid (vl fxn kxn=mxn)) (HAxn:Hid ((if bbxn then -((mxn:Nat):Int) else ((mxn:Nat):Int))=ixn)) (HWxd:Hid (Wa w vxd kxd fxd)) (HFxd:Hid (∀ i,i<kxd→fxd i<4294967296)) (HVxd:Hid (vl fxd kxd=mxd)) (HQx:Hid (mkRat ixn (mxd+1)=a)) (hkxn:kxn≤6) (hkxd:6<kxd) (HT:Hid (Tab w)) :
  Calls Tryz.prog 9 #[.agg #[.bool bbxn,vxn,vxd],.int .u8 n] w fun e w'=>e=.returned (.bool true)∧Below w.heap.size w w':=by
 obtain ⟨ao_xn,c_xn,rfl⟩:=HWxn.out.slice
 obtain ⟨ao_xd,c_xd,rfl⟩:=HWxd.out.slice
 go_enter Tryz.func9,Tryz.ntmps9
 have I:=lh_ (hp0 w)
 refine kS fun K O=>?_
 refine wp_region_lit ?_
 go_wp2
 refine kF_ O ((I.out).aL (w.heap.size)) fun Wx0 J=>?_;clear O K
 clear I;have I:=J;clear J
 refine wp_seq ?_
 have hd1:¬ (6<((kxn:Int))):=ok
 have hd2:6<((kxd:Int)):=ok
 have lx0:=c0_ I
 refine ql9 fun K O T Y=>?_
 iterate 11 refine tk ?_
 refine nlS Y I fun vw1 J=>?_
 clear Y T I lx0
 go_wp2
 refine kO O ?_;clear O K
 have I:=J;clear J
 clear hd1 hd2
 refine wp_cond_true (by rfl) ?_
 have HB:=HPb I
 refine ks2_ fun K O T Y=>?_
 refine ck Tryz.call22 (fun w' hw=>qa6 _ (lh_ (HT.out.gr (Gr.trans HB.out hw)))) ?_
 refine tk ?_
 refine nlS Y I fun vw2 J=>?_
 clear Y T I HB
 go_wp2
 refine kO O ?_;clear O K
 have I:=J;clear J
 refine wp_ret ?_
 try simp only [Exit.then,Exit.inBlock]
 exact bodyPost_ret (v:=.bool true) (by simp [results,Tryz.results9,go_sem]) rfl ⟨rfl,I.out.1⟩
theorem xm5 (bbxn:Bool) (vxn:Value) (kxn:Nat) (fxn:Nat→Nat) (vxd:Value) (kxd:Nat) (fxd:Nat→Nat) (n:Int) (w:World) (HWxn:Hid (Wa w vxn kxn fxn)) (HFxn:Hid (∀ i,i<kxn→fxn i<4294967296)) (HWxd:Hid (Wa w vxd kxd fxd)) (HFxd:Hid (∀ i,i<kxd→fxd i<4294967296)) (hm1:0≤n) (hm2:n≤255) (HT:Hid (Tab w)) :
  Calls Tryz.prog 9 #[.agg #[.bool bbxn,vxn,vxd],.int .u8 n] w fun e w'=>e=.returned (.bool true)∧Below w.heap.size w w':=by
 obtain ⟨ixn,HAxn⟩:∃ z,Hid ((if bbxn then -((vl fxn kxn:Nat):Int) else ((vl fxn kxn:Nat):Int))=z):=⟨_,lh_ rfl⟩
 obtain ⟨a,HQx⟩:∃ z,Hid (mkRat ixn (vl fxd kxd+1)=z):=⟨_,lh_ rfl⟩
 by_cases hkxn:kxn≤6
 ·skip
  by_cases hkxd:kxd≤6
  ·skip
   have hsa:sz a≤7:=by
    rw [← HQx.out]
    have hm1:wl (vl fxn kxn)≤6:=by have:=qa4.2 (qf7 HFxn.out);omega
    exact qf6 (by rw [qn9 HAxn.out];exact hm1) (by have:=qa4.2 (qf7 HFxd.out);omega)
   obtain ⟨k,hk,hk2⟩:=qz6 hm1
   by_cases ha:a=0
   ·subst ha
    exact xD9 bbxn vxn kxn fxn _ ixn vxd kxd fxd _ n k _ w HWxn HFxn (lh_ rfl) HAxn HWxd HFxd (lh_ rfl) HQx hkxn hkxd hm1 hm2 (lh_ hk) hk2 (lh_ rfl) (lh_ (xp6 k)) (lh_ (qA0 k)) (lh_ (xg5 k)) (lh_ (by have:=Rat.mul_pos (qm0 k) (qm0 k);rw [qQ3];grind)) HT
   ·have hc:=qj2 a
    have hsc:sz (qabs a)≤7:=by rw [qc8];exact hsa
    have hcn:¬ qabs a=0:=fun e=>ha (by unfold qabs at e;split at e <;> grind)
    obtain ⟨c,HAA⟩:∃ c,qabs a=c:=⟨_,rfl⟩
    rw [HAA] at hc hsc hcn
    have hsl:sz (rlo c k)≤20:=Nat.le_trans (qd2 hk2 hsc) (by decide)
    have hsh:sz (rhi c k)≤20:=Nat.le_trans (qd8 hk2 hsc) (by decide)
    by_cases he:rlo c k*rlo c k=c
    ·have hp:=qM4 hc hcn he
     have h1:=qH9 hc k
     have h2:=qX0 hc k (by rw [ql6 he];exact hp)
     rw [ql6 he] at h2
     exact xD8 bbxn vxn kxn fxn _ ixn vxd kxd fxd _ a n k _ c _ w HWxn HFxn (lh_ rfl) HAxn HWxd HFxd (lh_ rfl) HQx hkxn hkxd hm1 hm2 (lh_ hk) hk2 (lh_ rfl) (lh_ (xp6 k)) (lh_ HAA) hsc (lh_ hc) (lh_ rfl) (lh_ (qk8 c k)) hsl _ (lh_ rfl) (qG3 hsl (qn0 hk2)) (lh_ (qC7 c k)) (lh_ (ql6 he)) (lh_ he) (lh_ hp) (lh_ (by rw [qQ3];grind)) (lh_ (by rw [qQ3];grind)) HT
    ·have e1:=qo7 he
     have h0:=qk8 c k
     have h3:=qm0 k
     have h1:=qH9 hc k
     have h2:=qm1 hc k
     exact xF2 bbxn vxn kxn fxn _ ixn vxd kxd fxd _ a n k _ c _ _ w HWxn HFxn (lh_ rfl) HAxn HWxd HFxd (lh_ rfl) HQx hkxn hkxd hm1 hm2 (lh_ hk) hk2 (lh_ rfl) (lh_ (xp6 k)) (lh_ HAA) hsc (lh_ hc) (lh_ rfl) (lh_ h0) hsl _ (lh_ rfl) (qG3 hsl (qn0 hk2)) (lh_ (qC7 c k)) (lh_ rfl) hsh (lh_ (by rw [e1];grind)) (lh_ (by rw [e1];rfl)) (lh_ (by rw [e1,qQ3];grind)) (lh_ (by rw [e1,qQ3];grind)) (lh_ (by rw [e1];grind)) (lh_ he) (lh_ (by grind)) (lh_ (by rw [e1];grind)) _ (lh_ rfl) (qG3 hsh (qn0 hk2)) (lh_ (qP8 c k)) HT
  ·exact xd5 bbxn vxn kxn fxn _ ixn vxd kxd fxd _ a n w HWxn HFxn (lh_ rfl) HAxn HWxd HFxd (lh_ rfl) HQx  hkxn om HT
 ·exact xe1 bbxn vxn kxn fxn _ ixn vxd kxd fxd _ a n w HWxn HFxn (lh_ rfl) HAxn HWxd HFxd (lh_ rfl) HQx   om HT
end Go.Proofs.YtaflakcemiilaaaGreatDoor
