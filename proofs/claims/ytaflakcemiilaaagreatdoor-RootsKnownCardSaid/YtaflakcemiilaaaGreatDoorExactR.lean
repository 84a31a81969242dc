
/- RootsExact: the law's walk. -/
import Derived.Test.YtaflakcemiilaaaGreatDoorRRot1
import Derived.Test.YtaflakcemiilaaaGreatDoorRot1
import Derived.Test.YtaflakcemiilaaaGreatDoorSgnR
set_option maxRecDepth 100000
set_option maxHeartbeats 16000000
set_option linter.unusedVariables false
set_option linter.unusedSimpArgs false
namespace Go.Proofs.YtaflakcemiilaaaGreatDoor
open Go.RowKit
attribute [local go_sem ↓] Go.wp_at_zero Go.wp_at_succ
attribute [local go_sem ↓] qd6 qa7 qf4 qk3 qe7
attribute [local go_sem] Instr.field asAgg
theorem xr8 {s a:Rat} (h:0≤s):exq (s*s*(a*a))=s*qabs a:=by
 have e:s*s*(a*a)=s*a*(s*a):=by grind
 rw [e,qI9]
 unfold qabs
 rcases (show 0≤a∨a<0 by grind) with h2|h2
 ·have h3:=Rat.mul_nonneg h h2
  rw [if_neg (by grind),if_neg (by grind)]
 ·have h3:=Rat.mul_nonneg h (show 0 ≤ -a by grind)
  rw [if_pos h2]
  by_cases h4:s*a<0
  ·rw [if_pos h4];grind
  ·rw [if_neg h4]
   have:s*a=0:=by grind
   grind
theorem qT0 {s a:Rat}:s*qabs a*(s*qabs a)=s*s*(a*a):=by
 have:=qv9 a
 generalize qabs a=q at *
 grind
theorem xr9 {a b:Rat} (ha:a≠0) (h:¬ exq b*exq b=b):¬ exq (b*(a*a))*exq (b*(a*a))=b*(a*a):=fun e=>by
 apply h
 refine xy8 (s:=exq (b*(a*a)) / a) ?_
 have h1:a*a≠0:=fun e=>ha (by
  rcases (show a<0∨a=0∨0<a by grind) with c|c|c
  ·have:=Rat.mul_pos (show 0 < -a by grind) (show 0 < -a by grind);grind
  ·exact c
  ·have:=Rat.mul_pos c c;grind)
 have h2:exq (b*(a*a)) / a*(exq (b*(a*a)) / a)=exq (b*(a*a))*exq (b*(a*a)) / (a*a):=by
  rw [Rat.div_def,Rat.div_def,Rat.inv_mul_rev]
  grind
 rw [h2,e]
 exact (Rat.mul_div_cancel h1).symm
theorem xt6 (a:Rat) (k:Nat):rlo (a*a) k≤qabs a:=qL0 (qk8 _ _) (qj2 a) (by rw [qv9];exact qm1 (qb7 a) k)
theorem xz_ {s a b:Rat} (h:sz s≤5) (h2:sz a≤5):sz (s*qabs a)≤30:=by have:=qb0 s (qabs a);rw [qc8] at this;omega
theorem xA3 (bbxn:Bool) (vxn:Value) (kxn:Nat) (fxn:Nat→Nat) (mxn:Nat) (ixn:Int) (vxd:Value) (kxd:Nat) (fxd:Nat→Nat) (mxd:Nat) (bbyn:Bool) (vyn:Value) (kyn:Nat) (fyn:Nat→Nat) (myn:Nat) (iyn:Int) (vyd:Value) (kyd:Nat) (fyd:Nat→Nat) (myd:Nat) (a b:Rat)  (r lw:Rat) (sa c0:Int) (s:Rat) (t:Rat) (w:World) (HWxn:Hid (Wa w vxn kxn fxn)) (HFxn:Hid (∀ i,i<kxn→fxn i<4294967296)) (HVxn:Hid (vl fxn kxn=mxn)) (HAxn:Hid ((if bbxn then -((mxn:Nat):Int) else ((mxn:Nat):Int))=ixn)) (HWxd:Hid (Wa w vxd kxd fxd)) (HFxd:Hid (∀ i,i<kxd→fxd i<4294967296)) (HVxd:Hid (vl fxd kxd=mxd)) (HQx:Hid (mkRat ixn (mxd+1)=a)) (HWyn:Hid (Wa w vyn kyn fyn)) (HFyn:Hid (∀ i,i<kyn→fyn i<4294967296)) (HVyn:Hid (vl fyn kyn=myn)) (HAyn:Hid ((if bbyn then -((myn:Nat):Int) else ((myn:Nat):Int))=iyn)) (HWyd:Hid (Wa w vyd kyd fyd)) (HFyd:Hid (∀ i,i<kyd→fyd i<4294967296)) (HVyd:Hid (vl fyd kyd=myd)) (HQy:Hid (mkRat iyn (myd+1)=b)) (hkxn:kxn≤4) (hkxd:kxd≤4) (hkyn:kyn≤4) (hkyd:kyd≤4) (HR:Hid (qabs a=r)) (hsr:sz r≤5) (HLW:Hid (rlo (a*a) 64=lw)) (HC0:Hid (sgQ (lw - r)=c0)) (hc0:¬ 0<c0) (HSA:Hid (sgQ a=sa)) (hsa:¬ sa=0) (HS:Hid (exq b=s)) (HSQ:Hid (s*s=b)) (HS0:Hid (0≤s)) (hss:sz s≤5) (HEX:Hid (exq (b*(a*a))=t)) (HTQ:Hid (t*t=b*(a*a))) (HTM:Hid (s*r=t)) (hst:sz t≤30) (HT:Hid (Tab w)) :
  Calls Tryz.prog 6 #[.agg #[.bool bbxn,vxn,vxd],.agg #[.bool bbyn,vyn,vyd]] w fun e w'=>e=.returned (.bool true)∧Below w.heap.size w w':=by
 obtain ⟨ao_xn,c_xn,rfl⟩:=HWxn.out.slice
 obtain ⟨ao_xd,c_xd,rfl⟩:=HWxd.out.slice
 have hm_xn:wl mxn≤4:=by rw [← HVxn.out];have:=qa4.2 (qf7 HFxn.out);omega
 have hm_xd:wl mxd≤4:=by rw [← HVxd.out];have:=qa4.2 (qf7 HFxd.out);omega
 have hi_x:wl (Int.natAbs ixn)≤4:=by rw [qn9 HAxn.out];exact hm_xn
 have hs_x:sz a≤5:=by rw [← HQx.out];exact qf6 hi_x hm_xd
 have hr_x:rz a≤15:=by rw [← HQx.out];exact qh1 hi_x hm_xd (by decide)
 obtain ⟨ao_yn,c_yn,rfl⟩:=HWyn.out.slice
 obtain ⟨ao_yd,c_yd,rfl⟩:=HWyd.out.slice
 have hm_yn:wl myn≤4:=by rw [← HVyn.out];have:=qa4.2 (qf7 HFyn.out);omega
 have hm_yd:wl myd≤4:=by rw [← HVyd.out];have:=qa4.2 (qf7 HFyd.out);omega
 have hi_y:wl (Int.natAbs iyn)≤4:=by rw [qn9 HAyn.out];exact hm_yn
 have hs_y:sz b≤5:=by rw [← HQy.out];exact qf6 hi_y hm_yd
 have hr_y:rz b≤15:=by rw [← HQy.out];exact qh1 hi_y hm_yd (by decide)
 go_enter Tryz.func6,Tryz.ntmps6
 have I:=lh_ (hp0 w)
 refine kS fun K O=>?_
 refine wp_region_lit ?_
 go_wp2
 refine kF_ O (((I.out).aL (w.heap.size)).aL (w.heap.size+1)) fun Wx0 J=>?_;clear O K
 clear I;have I:=J;clear J
 generalize w.heap.size+1=gx1 at *
 refine wp_seq ?_
 have hd1:¬ (4<((kxn:Int))):=by first|exact ok|exact HR.out|exact HSQ.out|exact HTM.out|exact HNS.out|decide +kernel|exact qb7 _
 have hd2:¬ (4<((kxd:Int))):=by first|exact ok|exact HR.out|exact HSQ.out|exact HTM.out|exact HNS.out|decide +kernel|exact qb7 _
 have hd3:¬ (4<((kyn:Int))):=by first|exact ok|exact HR.out|exact HSQ.out|exact HTM.out|exact HNS.out|decide +kernel|exact qb7 _
 have hd4:¬ (4<((kyd:Int))):=by first|exact ok|exact HR.out|exact HSQ.out|exact HTM.out|exact HNS.out|decide +kernel|exact qb7 _
 have lx0:=c0_ I
 have lx1:=c1_ I
 refine qs3 fun K O T Y=>?_
 iterate 24 refine tk ?_
 refine nlS Y I fun vw1 J=>?_
 clear Y T I lx0 lx1
 go_wp2
 refine kO O ?_;clear O K
 have I:=J;clear J
 clear hd1 hd2 hd3 hd4
 refine wp_cond_false (by rfl) ?_
 refine wp_skip ?_
 show Code.wp _ _ _ _ _
 have HB:=HPb I
 have lx0:=c0_ I
 have lx1:=c1_ I
 refine kS fun K O=>?_
 refine qa2 6 [4,5] [] (fun i=>if i=4 then 5 else 6) (fun i=>if i=4 then .cells #[.int .u64 0,.string ⟨#[]⟩,.bool false,.int .u64 0,.string ⟨#[]⟩] 36 else .cells #[.int .u64 0,.string ⟨#[]⟩,.bool false,.int .u64 0,.string ⟨#[]⟩] 36) [(true,0),(true,2),(true,1),(true,3)] (by kernel_rfl) (by kernel_rfl) (by intro i hi;simp only [List.mem_cons,List.not_mem_nil,or_false] at hi;rcases hi with rfl|rfl <;> exact ⟨_,rfl,rfl,rfl,by simp,fun ρ w=>by kernel_rfl⟩) (fun i hi=>by cases hi) (fun _ _ _ _ _ h=>h) (fun T Y=>?_)
 refine tk2_ ?_
 refine ck Tryz.call36 (fun w' hw=>qj8 bbxn kxn fxn mxn ixn kxd fxd mxd a ao_xn c_xn ao_xd c_xd w' (lh_ (HWxn.out.gr (Gr.trans HB.out hw))) HFxn HVxn HAxn (lh_ (HWxd.out.gr (Gr.trans HB.out hw))) HFxd HVxd HQx om om om om) ?_
 refine ck Tryz.call36 (fun w' hw=>qj8 bbyn kyn fyn myn iyn kyd fyd myd b ao_yn c_yn ao_yd c_yd w' (lh_ (HWyn.out.gr (Gr.trans HB.out hw))) HFyn HVyn HAyn (lh_ (HWyd.out.gr (Gr.trans HB.out hw))) HFyd HVyd HQy om om om om) ?_
 refine qa1 (Y.out _ _ ?_)
 intro G vw2 hg hf
 simp only [puts,Act.put,lA,lB,lC,lD,lE,↓reduceIte,Nat.reduceEqDiff]
 have J:=lh_ (I.out.fr hg hf (zs:=[(#[.int .u64 0,.string ⟨#[]⟩,.bool false,.int .u64 0,.string ⟨#[]⟩],36),(#[.int .u64 0,.string ⟨#[]⟩,.bool false,.int .u64 0,.string ⟨#[]⟩],36)]) rfl (by decide) (by decide))
 simp only [zq1_,zq2_,zq3_,zq4_,lF,lG] at J
 clear Y T I hg hf lx0 lx1 HB
 generalize G 4=gx3 at *
 generalize G 5=gx4 at *
 have lx3:=c2_ J;have fx3:=f2_ J
 have lx4:=c3_ J;have fx4:=f3_ J
 have r0:=Gr.refl vw2
 obtain ⟨d3_4,d4_3⟩:=J.out.ne 2 3 rfl rfl (by decide)
 go_wp2
 refine kO O ?_;clear O K
 clear r0 lx3 fx3 lx4 fx4 d3_4 d4_3
 refine fH (((((((((J.out).put2 2 0 rfl).put2 2 2 rfl).put 2 4 _ rfl).put2 3 0 rfl).put2 3 2 rfl).put 3 4 _ rfl).er 1).er 0) fun Wx3 I=>?_
 clear J
 obtain ⟨u1,HZ1⟩:∃ z,Hid (a*(a)=z):=⟨_,lh_ rfl⟩
 have su1:sz u1≤10:=by rw [← HZ1.out];have:=qb0 a a;omega
 have HZ2:Hid (exq u1=r):=lh_ (by simp only [← HZ1.out];rw [qI9];exact HR.out)
 have su2:sz r≤5:=by have e:=HZ2.out;first|omega|(rw [← e];exact ql8 om)
 have lx3:=c0_ I
 refine ks6_ fun K O T Y=>?_
 refine tk ?_
 refine ck Tryz.call37 (fun w' hw=>qa3 a u1 _ (lh_ HZ1.out) om) ?_
 refine ck Tryz.call33 (fun w' hw=>qh2 u1 r _ HZ2.out (by simp only [← HZ1.out];rw [← HR.out,qv9]) om) ?_
 refine tk3_ ?_
 refine nlS Y I fun vw3 J=>?_
 clear Y T I lx3
 go_wp2
 refine kF_ O ((J.out).aL (vw3.heap.size)) fun Wx4 I=>?_;clear O K
 clear J
 generalize vw3.heap.size=gx5 at *
 have HZ3:Hid (exq b=s):=lh_ (HS.out)
 have su3:sz s≤5:=by have e:=HZ3.out;first|omega|(rw [← e];exact ql8 om)
 have lx4:=c1_ I
 refine ks5_ fun K O T Y=>?_
 refine tk ?_
 refine ck Tryz.call33 (fun w' hw=>qh2 b s _ HZ3.out (by first|exact ok|exact HR.out|exact HSQ.out|exact HTM.out|exact HNS.out|decide +kernel|exact qb7 _|(simp only [← HZ1.out] <;> first|exact ok|exact HR.out|exact HSQ.out|exact HTM.out|exact HNS.out|decide +kernel|exact qb7 _)) om) ?_
 refine tk3_ ?_
 refine nlS Y I fun vw4 J=>?_
 clear Y T I lx4
 go_wp2
 refine kF_ O ((J.out).aL (vw4.heap.size)) fun Wx5 I=>?_;clear O K
 clear J
 generalize vw4.heap.size=gx6 at *
 have HZ4:Hid (a*(a)=u1):=lh_ (by first|exact ok|exact HR.out|exact HSQ.out|exact HTM.out|exact HNS.out|decide +kernel|exact qb7 _|(simp only [← HZ1.out] <;> first|exact ok|exact HR.out|exact HSQ.out|exact HTM.out|exact HNS.out|decide +kernel|exact qb7 _))
 have su4:sz u1≤10:=by have e:=HZ4.out;first|omega|(rw [← e];have:=qb0 a a;omega)
 have HZ5:Hid (rlo u1 64=lw):=lh_ (by simp only [← HZ1.out];exact HLW.out)
 have su5:sz lw≤20:=by have e:=HZ5.out;first|omega|(rw [← e];exact Nat.le_trans (qd2 om om) om)
 have lx3:=c0_ I
 refine ks6_ fun K O T Y=>?_
 refine tk ?_
 refine ck Tryz.call37 (fun w' hw=>qa3 a u1 _ (lh_ HZ4.out) om) ?_
 refine ck Tryz.call23 (fun w' hw=>qb1 u1 lw 64 _ (lh_ (by simp only [← HZ1.out];exact qb7 _)) (lh_ HZ5.out) om om) ?_
 refine tk3_ ?_
 refine nlS Y I fun vw5 J=>?_
 clear Y T I lx3
 go_wp2
 refine kF_ O ((J.out).aL (vw5.heap.size)) fun Wx6 I=>?_;clear O K
 clear J
 generalize vw5.heap.size=gx7 at *
 refine wp_seq ?_
 have HZ6:Hid (qabs a=r):=lh_ (by first|exact ok|exact HR.out|exact HSQ.out|exact HTM.out|exact HNS.out|decide +kernel|exact qb7 _|(simp only [← HZ1.out] <;> first|exact ok|exact HR.out|exact HSQ.out|exact HTM.out|exact HNS.out|decide +kernel|exact qb7 _))
 have su6:sz r≤5:=by have e:=HZ6.out;first|omega|(rw [← e];rw [qc8];omega)
 have HZ7:Hid (s*(s)=b):=lh_ (by first|exact ok|exact HR.out|exact HSQ.out|exact HTM.out|exact HNS.out|decide +kernel|exact qb7 _|(simp only [← HZ1.out] <;> first|exact ok|exact HR.out|exact HSQ.out|exact HTM.out|exact HNS.out|decide +kernel|exact qb7 _))
 have su7:sz b≤10:=by have e:=HZ7.out;first|omega|(rw [← e];have:=qb0 s s;omega)
 obtain ⟨t8,HT8⟩:∃ z,Hid (sgQ s=z):=⟨_,lh_ rfl⟩
 have ht8:0≤t8:=by rw [← HT8.out];exact sgQ_nn0 HS0.out
 have hd5:¬ (t8<0):=by first|exact ok|exact HR.out|exact HSQ.out|exact HTM.out|exact HNS.out|decide +kernel|exact qb7 _|(simp only [← HZ1.out] <;> first|exact ok|exact HR.out|exact HSQ.out|exact HTM.out|exact HNS.out|decide +kernel|exact qb7 _)
 have hcc0:¬ 0<c0:=by omega
 have lx3:=c0_ I
 have lx4:=c1_ I
 have lx5:=c2_ I
 have lx6:=c3_ I
 have lx7:=c4_ I
 refine kS fun K O=>?_
 refine pd4_ fun T Y=>?_
 refine tk2_ ?_
 refine ck Tryz.call31 (fun w' hw=>qd0 a r _ HZ6.out) ?_
 iterate 10 refine tk ?_
 refine ck Tryz.call37 (fun w' hw=>qa3 s b _ (lh_ HZ7.out) om) ?_
 refine tk3_ ?_
 refine ck Tryz.call35 (fun w' hw=>qa5 s t8 _ HT8.out) ?_
 iterate 8 refine tk ?_
 iterate 3 refine sk ?_
 iterate 5 refine tk ?_
 refine ck Tryz.call38 (fun w' hw=>qa8 lw r c0 _ (by first|exact HC0.out|(simp only [← HZ1.out];exact HC0.out)) om om) ?_
 refine tk ?_
 refine nlD Y I fun vw6 J=>?_
 clear Y T I lx3 lx4 lx5 lx6 lx7
 go_wp2
 refine kF_ O (((J.out).er 4).er 2) fun Wx7 I=>?_;clear O K
 clear J
 clear ht8 hd5 hcc0
 refine wp_cond_false (by rfl) ?_
 refine wp_skip ?_
 show Code.wp _ _ _ _ _
 refine wp_seq ?_
 have hd6:(sa == (0))=false:=by have:¬ (sa=0):=(by first|exact ok|exact HR.out|exact HSQ.out|exact HTM.out|exact HNS.out|decide +kernel|exact qb7 _|(simp only [← HZ1.out] <;> first|exact ok|exact HR.out|exact HSQ.out|exact HTM.out|exact HNS.out|decide +kernel|exact qb7 _));simpa using this
 have hd7:(sa != (0))=true:=by have:¬ (sa=0):=(by first|exact ok|exact HR.out|exact HSQ.out|exact HTM.out|exact HNS.out|decide +kernel|exact qb7 _|(simp only [← HZ1.out] <;> first|exact ok|exact HR.out|exact HSQ.out|exact HTM.out|exact HNS.out|decide +kernel|exact qb7 _));simpa using this
 have lx3:=c0_ I
 refine ks6_ fun K O T Y=>?_
 refine tk3_ ?_
 refine ck Tryz.call35 (fun w' hw=>qa5 a sa _ HSA.out) ?_
 refine tk2_ ?_
 refine nlS Y I fun vw7 J=>?_
 clear Y T I lx3
 go_wp2
 refine kO O ?_;clear O K
 have I:=J;clear J
 clear hd6 hd7
 refine wp_cond_true (by rfl) ?_
 have HZ9:Hid (a*(a)=u1):=lh_ (by first|exact ok|exact HR.out|exact HSQ.out|exact HTM.out|exact HNS.out|decide +kernel|exact qb7 _|(simp only [← HZ1.out] <;> first|exact ok|exact HR.out|exact HSQ.out|exact HTM.out|exact HNS.out|decide +kernel|exact qb7 _))
 have su9:sz u1≤10:=by have e:=HZ9.out;first|omega|(rw [← e];have:=qb0 a a;omega)
 obtain ⟨u10,HZ10⟩:∃ z,Hid (b*(u1)=z):=⟨_,lh_ rfl⟩
 have su10:sz u10≤15:=by rw [← HZ10.out];have:=qb0 b u1;omega
 have HZ11:Hid (exq u10=t):=lh_ (by simp only [← HZ10.out,← HZ1.out];exact HEX.out)
 have su11:sz t≤30:=by have e:=HZ11.out;first|omega|(rw [← e];exact ql8 om)
 have lx3:=c0_ I
 have lx4:=c1_ I
 refine kS fun K O=>?_
 refine qa2 9 [8] [7] (fun _=>13) (fun _=>.cells #[.int .u64 0,.string ⟨#[]⟩,.bool false,.int .u64 0,.string ⟨#[]⟩] 36) [(true,0),(true,1),(true,2),(true,3),(true,4),(true,5),(true,6),(true,7)] (by kernel_rfl) (by kernel_rfl) (by intro i hi;simp only [List.mem_cons,List.not_mem_nil,or_false] at hi;rcases hi with rfl <;> exact ⟨_,rfl,rfl,rfl,by simp,fun ρ w=>by kernel_rfl⟩) (by intro i hi;simp only [List.mem_cons,List.not_mem_nil,or_false] at hi;rcases hi with rfl <;> exact ⟨_,rfl,qb9⟩) (fun _ _ _ _ _ h=>h) (fun T Y=>?_)
 refine tk2_ ?_
 refine ck Tryz.call37 (fun w' hw=>qa3 a u1 _ (lh_ HZ9.out) om) ?_
 refine ck Tryz.call39 (fun w' hw=>qc7 b u1 u10 _ HZ10.out om om) ?_
 refine ck Tryz.call33 (fun w' hw=>qh2 u10 t _ HZ11.out (by simp only [← HZ10.out,← HZ1.out];exact HTQ.out) om) ?_
 refine tk3_ ?_
 refine qa1 (Y.out _ _ ?_)
 intro G vw8 hg hf
 simp only [puts,Act.put,lA,lB,lC,lD,lE,↓reduceIte,Nat.reduceEqDiff]
 have J:=lh_ (I.out.fr hg hf (zs:=[(#[.int .u64 0,.string ⟨#[]⟩,.bool false,.int .u64 0,.string ⟨#[]⟩],36)]) rfl (by decide) (by decide))
 simp only [zq1_,zq2_,zq3_,zq4_,lF,lG] at J
 clear Y T I hg hf lx3 lx4
 generalize G 8=gx8 at *
 have lx8:=c3_ J;have fx8:=f3_ J
 have r0:=Gr.refl vw8
 go_wp2
 refine kO O ?_;clear O K
 clear r0 lx8 fx8
 refine fH ((((J.out).put2 3 0 rfl).put2 3 2 rfl).put 3 4 _ rfl) fun Wx10 I=>?_
 clear J
 have HB:=HPb I
 have HZ12:Hid (qabs a=r):=lh_ (by first|exact ok|exact HR.out|exact HSQ.out|exact HTM.out|exact HNS.out|decide +kernel|exact qb7 _|(simp only [← HZ10.out,← HZ1.out] <;> first|exact ok|exact HR.out|exact HSQ.out|exact HTM.out|exact HNS.out|decide +kernel|exact qb7 _))
 have su12:sz r≤5:=by have e:=HZ12.out;first|omega|(rw [← e];rw [qc8];omega)
 have HZ13:Hid (s*(r)=t):=lh_ (by first|exact ok|exact HR.out|exact HSQ.out|exact HTM.out|exact HNS.out|decide +kernel|exact qb7 _|(simp only [← HZ10.out,← HZ1.out] <;> first|exact ok|exact HR.out|exact HSQ.out|exact HTM.out|exact HNS.out|decide +kernel|exact qb7 _))
 have su13:sz t≤10:=by have e:=HZ13.out;first|omega|(rw [← e];have:=qb0 s r;omega)
 have lx3:=c0_ I
 have lx6:=c2_ I
 have lx8:=c3_ I
 refine kS fun K O=>?_
 refine pd5_ fun T Y=>?_
 refine tk3_ ?_
 refine ck Tryz.call31 (fun w' hw=>qd0 a r _ HZ12.out) ?_
 refine ck Tryz.call39 (fun w' hw=>qc7 s r t _ HZ13.out om om) ?_
 iterate 5 refine tk ?_
 refine ck Tryz.call22 (fun w' hw=>qa6 _ (lh_ (HT.out.gr (Gr.trans HB.out hw)))) ?_
 refine tk ?_
 refine nlD Y I fun vw9 J=>?_
 clear Y T I lx3 lx6 lx8 HB
 go_wp2
 refine kF_ O (((J.out).er 3).er 2) fun Wx11 I=>?_;clear O K
 clear J
 refine wp_ret ?_
 try simp only [Exit.then,Exit.inBlock]
 exact bodyPost_ret (v:=.bool true) (by simp [results,Tryz.results6,go_sem]) rfl ⟨rfl,I.out.1⟩
theorem xx_ (bbxn:Bool) (vxn:Value) (kxn:Nat) (fxn:Nat→Nat) (mxn:Nat) (ixn:Int) (vxd:Value) (kxd:Nat) (fxd:Nat→Nat) (mxd:Nat) (bbyn:Bool) (vyn:Value) (kyn:Nat) (fyn:Nat→Nat) (myn:Nat) (iyn:Int) (vyd:Value) (kyd:Nat) (fyd:Nat→Nat) (myd:Nat) (a b:Rat)  (r lw:Rat) (sa c0:Int) (w:World) (HWxn:Hid (Wa w vxn kxn fxn)) (HFxn:Hid (∀ i,i<kxn→fxn i<4294967296)) (HVxn:Hid (vl fxn kxn=mxn)) (HAxn:Hid ((if bbxn then -((mxn:Nat):Int) else ((mxn:Nat):Int))=ixn)) (HWxd:Hid (Wa w vxd kxd fxd)) (HFxd:Hid (∀ i,i<kxd→fxd i<4294967296)) (HVxd:Hid (vl fxd kxd=mxd)) (HQx:Hid (mkRat ixn (mxd+1)=a)) (HWyn:Hid (Wa w vyn kyn fyn)) (HFyn:Hid (∀ i,i<kyn→fyn i<4294967296)) (HVyn:Hid (vl fyn kyn=myn)) (HAyn:Hid ((if bbyn then -((myn:Nat):Int) else ((myn:Nat):Int))=iyn)) (HWyd:Hid (Wa w vyd kyd fyd)) (HFyd:Hid (∀ i,i<kyd→fyd i<4294967296)) (HVyd:Hid (vl fyd kyd=myd)) (HQy:Hid (mkRat iyn (myd+1)=b)) (hkxn:kxn≤4) (hkxd:kxd≤4) (hkyn:kyn≤4) (hkyd:kyd≤4) (HR:Hid (qabs a=r)) (hsr:sz r≤5) (HLW:Hid (rlo (a*a) 64=lw)) (HC0:Hid (sgQ (lw - r)=c0)) (hc0:¬ 0<c0) (HSA:Hid (sgQ a=sa)) (hsa:¬ sa=0) (HNS:Hid (¬ exq b*exq b=b)) (HNV:Hid (¬ exq (b*(a*a))*exq (b*(a*a))=b*(a*a))) (HT:Hid (Tab w)) :
  Calls Tryz.prog 6 #[.agg #[.bool bbxn,vxn,vxd],.agg #[.bool bbyn,vyn,vyd]] w fun e w'=>e=.returned (.bool true)∧Below w.heap.size w w':=by
 obtain ⟨ao_xn,c_xn,rfl⟩:=HWxn.out.slice
 obtain ⟨ao_xd,c_xd,rfl⟩:=HWxd.out.slice
 have hm_xn:wl mxn≤4:=by rw [← HVxn.out];have:=qa4.2 (qf7 HFxn.out);omega
 have hm_xd:wl mxd≤4:=by rw [← HVxd.out];have:=qa4.2 (qf7 HFxd.out);omega
 have hi_x:wl (Int.natAbs ixn)≤4:=by rw [qn9 HAxn.out];exact hm_xn
 have hs_x:sz a≤5:=by rw [← HQx.out];exact qf6 hi_x hm_xd
 have hr_x:rz a≤15:=by rw [← HQx.out];exact qh1 hi_x hm_xd (by decide)
 obtain ⟨ao_yn,c_yn,rfl⟩:=HWyn.out.slice
 obtain ⟨ao_yd,c_yd,rfl⟩:=HWyd.out.slice
 have hm_yn:wl myn≤4:=by rw [← HVyn.out];have:=qa4.2 (qf7 HFyn.out);omega
 have hm_yd:wl myd≤4:=by rw [← HVyd.out];have:=qa4.2 (qf7 HFyd.out);omega
 have hi_y:wl (Int.natAbs iyn)≤4:=by rw [qn9 HAyn.out];exact hm_yn
 have hs_y:sz b≤5:=by rw [← HQy.out];exact qf6 hi_y hm_yd
 have hr_y:rz b≤15:=by rw [← HQy.out];exact qh1 hi_y hm_yd (by decide)
 go_enter Tryz.func6,Tryz.ntmps6
 have I:=lh_ (hp0 w)
 refine kS fun K O=>?_
 refine wp_region_lit ?_
 go_wp2
 refine kF_ O (((I.out).aL (w.heap.size)).aL (w.heap.size+1)) fun Wx0 J=>?_;clear O K
 clear I;have I:=J;clear J
 generalize w.heap.size+1=gx1 at *
 refine wp_seq ?_
 have hd1:¬ (4<((kxn:Int))):=by first|exact ok|exact HR.out|exact HSQ.out|exact HTM.out|exact HNS.out|decide +kernel|exact qb7 _
 have hd2:¬ (4<((kxd:Int))):=by first|exact ok|exact HR.out|exact HSQ.out|exact HTM.out|exact HNS.out|decide +kernel|exact qb7 _
 have hd3:¬ (4<((kyn:Int))):=by first|exact ok|exact HR.out|exact HSQ.out|exact HTM.out|exact HNS.out|decide +kernel|exact qb7 _
 have hd4:¬ (4<((kyd:Int))):=by first|exact ok|exact HR.out|exact HSQ.out|exact HTM.out|exact HNS.out|decide +kernel|exact qb7 _
 have lx0:=c0_ I
 have lx1:=c1_ I
 refine qs3 fun K O T Y=>?_
 iterate 24 refine tk ?_
 refine nlS Y I fun vw1 J=>?_
 clear Y T I lx0 lx1
 go_wp2
 refine kO O ?_;clear O K
 have I:=J;clear J
 clear hd1 hd2 hd3 hd4
 refine wp_cond_false (by rfl) ?_
 refine wp_skip ?_
 show Code.wp _ _ _ _ _
 have HB:=HPb I
 have lx0:=c0_ I
 have lx1:=c1_ I
 refine kS fun K O=>?_
 refine qa2 6 [4,5] [] (fun i=>if i=4 then 5 else 6) (fun i=>if i=4 then .cells #[.int .u64 0,.string ⟨#[]⟩,.bool false,.int .u64 0,.string ⟨#[]⟩] 36 else .cells #[.int .u64 0,.string ⟨#[]⟩,.bool false,.int .u64 0,.string ⟨#[]⟩] 36) [(true,0),(true,2),(true,1),(true,3)] (by kernel_rfl) (by kernel_rfl) (by intro i hi;simp only [List.mem_cons,List.not_mem_nil,or_false] at hi;rcases hi with rfl|rfl <;> exact ⟨_,rfl,rfl,rfl,by simp,fun ρ w=>by kernel_rfl⟩) (fun i hi=>by cases hi) (fun _ _ _ _ _ h=>h) (fun T Y=>?_)
 refine tk2_ ?_
 refine ck Tryz.call36 (fun w' hw=>qj8 bbxn kxn fxn mxn ixn kxd fxd mxd a ao_xn c_xn ao_xd c_xd w' (lh_ (HWxn.out.gr (Gr.trans HB.out hw))) HFxn HVxn HAxn (lh_ (HWxd.out.gr (Gr.trans HB.out hw))) HFxd HVxd HQx om om om om) ?_
 refine ck Tryz.call36 (fun w' hw=>qj8 bbyn kyn fyn myn iyn kyd fyd myd b ao_yn c_yn ao_yd c_yd w' (lh_ (HWyn.out.gr (Gr.trans HB.out hw))) HFyn HVyn HAyn (lh_ (HWyd.out.gr (Gr.trans HB.out hw))) HFyd HVyd HQy om om om om) ?_
 refine qa1 (Y.out _ _ ?_)
 intro G vw2 hg hf
 simp only [puts,Act.put,lA,lB,lC,lD,lE,↓reduceIte,Nat.reduceEqDiff]
 have J:=lh_ (I.out.fr hg hf (zs:=[(#[.int .u64 0,.string ⟨#[]⟩,.bool false,.int .u64 0,.string ⟨#[]⟩],36),(#[.int .u64 0,.string ⟨#[]⟩,.bool false,.int .u64 0,.string ⟨#[]⟩],36)]) rfl (by decide) (by decide))
 simp only [zq1_,zq2_,zq3_,zq4_,lF,lG] at J
 clear Y T I hg hf lx0 lx1 HB
 generalize G 4=gx3 at *
 generalize G 5=gx4 at *
 have lx3:=c2_ J;have fx3:=f2_ J
 have lx4:=c3_ J;have fx4:=f3_ J
 have r0:=Gr.refl vw2
 obtain ⟨d3_4,d4_3⟩:=J.out.ne 2 3 rfl rfl (by decide)
 go_wp2
 refine kO O ?_;clear O K
 clear r0 lx3 fx3 lx4 fx4 d3_4 d4_3
 refine fH (((((((((J.out).put2 2 0 rfl).put2 2 2 rfl).put 2 4 _ rfl).put2 3 0 rfl).put2 3 2 rfl).put 3 4 _ rfl).er 1).er 0) fun Wx3 I=>?_
 clear J
 obtain ⟨u1,HZ1⟩:∃ z,Hid (a*(a)=z):=⟨_,lh_ rfl⟩
 have su1:sz u1≤10:=by rw [← HZ1.out];have:=qb0 a a;omega
 have HZ2:Hid (exq u1=r):=lh_ (by simp only [← HZ1.out];rw [qI9];exact HR.out)
 have su2:sz r≤5:=by have e:=HZ2.out;first|omega|(rw [← e];exact ql8 om)
 have lx3:=c0_ I
 refine ks6_ fun K O T Y=>?_
 refine tk ?_
 refine ck Tryz.call37 (fun w' hw=>qa3 a u1 _ (lh_ HZ1.out) om) ?_
 refine ck Tryz.call33 (fun w' hw=>qh2 u1 r _ HZ2.out (by simp only [← HZ1.out];rw [← HR.out,qv9]) om) ?_
 refine tk3_ ?_
 refine nlS Y I fun vw3 J=>?_
 clear Y T I lx3
 go_wp2
 refine kF_ O ((J.out).aL (vw3.heap.size)) fun Wx4 I=>?_;clear O K
 clear J
 generalize vw3.heap.size=gx5 at *
 have lx4:=c1_ I
 refine ks5_ fun K O T Y=>?_
 refine tk ?_
 refine ck Tryz.call33 (fun w' hw=>qi_ b _ _ rfl (by first|exact ok|exact HR.out|exact HSQ.out|exact HTM.out|exact HNS.out|decide +kernel|exact qb7 _|(simp only [← HZ1.out] <;> first|exact ok|exact HR.out|exact HSQ.out|exact HTM.out|exact HNS.out|decide +kernel|exact qb7 _)) om) ?_
 refine tk3_ ?_
 refine nlS Y I fun vw4 J=>?_
 clear Y T I lx4
 go_wp2
 refine kF_ O ((J.out).aL (vw4.heap.size)) fun Wx5 I=>?_;clear O K
 clear J
 generalize vw4.heap.size=gx6 at *
 have HZ3:Hid (a*(a)=u1):=lh_ (by first|exact ok|exact HR.out|exact HSQ.out|exact HTM.out|exact HNS.out|decide +kernel|exact qb7 _|(simp only [← HZ1.out] <;> first|exact ok|exact HR.out|exact HSQ.out|exact HTM.out|exact HNS.out|decide +kernel|exact qb7 _))
 have su3:sz u1≤10:=by have e:=HZ3.out;first|omega|(rw [← e];have:=qb0 a a;omega)
 have HZ4:Hid (rlo u1 64=lw):=lh_ (by simp only [← HZ1.out];exact HLW.out)
 have su4:sz lw≤20:=by have e:=HZ4.out;first|omega|(rw [← e];exact Nat.le_trans (qd2 om om) om)
 have lx3:=c0_ I
 refine ks6_ fun K O T Y=>?_
 refine tk ?_
 refine ck Tryz.call37 (fun w' hw=>qa3 a u1 _ (lh_ HZ3.out) om) ?_
 refine ck Tryz.call23 (fun w' hw=>qb1 u1 lw 64 _ (lh_ (by simp only [← HZ1.out];exact qb7 _)) (lh_ HZ4.out) om om) ?_
 refine tk3_ ?_
 refine nlS Y I fun vw5 J=>?_
 clear Y T I lx3
 go_wp2
 refine kF_ O ((J.out).aL (vw5.heap.size)) fun Wx6 I=>?_;clear O K
 clear J
 generalize vw5.heap.size=gx7 at *
 refine wp_seq ?_
 have HZ5:Hid (qabs a=r):=lh_ (by first|exact ok|exact HR.out|exact HSQ.out|exact HTM.out|exact HNS.out|decide +kernel|exact qb7 _|(simp only [← HZ1.out] <;> first|exact ok|exact HR.out|exact HSQ.out|exact HTM.out|exact HNS.out|decide +kernel|exact qb7 _))
 have su5:sz r≤5:=by have e:=HZ5.out;first|omega|(rw [← e];rw [qc8];omega)
 have hcc0:¬ 0<c0:=by omega
 have lx3:=c0_ I
 have lx4:=c1_ I
 have lx5:=c2_ I
 have lx6:=c3_ I
 have lx7:=c4_ I
 refine kS fun K O=>?_
 refine pd4_ fun T Y=>?_
 refine tk2_ ?_
 refine ck Tryz.call31 (fun w' hw=>qd0 a r _ HZ5.out) ?_
 iterate 8 refine tk ?_
 iterate 9 refine sk ?_
 iterate 14 refine tk ?_
 refine ck Tryz.call38 (fun w' hw=>qa8 lw r c0 _ (by first|exact HC0.out|(simp only [← HZ1.out];exact HC0.out)) om om) ?_
 refine tk ?_
 refine nlD Y I fun vw6 J=>?_
 clear Y T I lx3 lx4 lx5 lx6 lx7
 go_wp2
 refine kF_ O (((J.out).er 4).er 2) fun Wx7 I=>?_;clear O K
 clear J
 clear hcc0
 refine wp_cond_false (by rfl) ?_
 refine wp_skip ?_
 show Code.wp _ _ _ _ _
 refine wp_seq ?_
 have lx3:=c0_ I
 refine ks6_ fun K O T Y=>?_
 refine tk2_ ?_
 iterate 3 refine sk ?_
 refine tk ?_
 refine nlS Y I fun vw7 J=>?_
 clear Y T I lx3
 go_wp2
 refine kO O ?_;clear O K
 have I:=J;clear J
 refine wp_cond_false (by rfl) ?_
 refine wp_skip ?_
 show Code.wp _ _ _ _ _
 have HZ6:Hid (a*(a)=u1):=lh_ (by first|exact ok|exact HR.out|exact HSQ.out|exact HTM.out|exact HNS.out|decide +kernel|exact qb7 _|(simp only [← HZ1.out] <;> first|exact ok|exact HR.out|exact HSQ.out|exact HTM.out|exact HNS.out|decide +kernel|exact qb7 _))
 have su6:sz u1≤10:=by have e:=HZ6.out;first|omega|(rw [← e];have:=qb0 a a;omega)
 obtain ⟨u7,HZ7⟩:∃ z,Hid (b*(u1)=z):=⟨_,lh_ rfl⟩
 have su7:sz u7≤15:=by rw [← HZ7.out];have:=qb0 b u1;omega
 have lx3:=c0_ I
 have lx4:=c1_ I
 refine kS fun K O=>?_
 refine qa2 9 [8] [7] (fun _=>15) (fun _=>.cells #[.int .u64 0,.string ⟨#[]⟩,.bool false,.int .u64 0,.string ⟨#[]⟩] 36) [(true,0),(true,1),(true,2),(true,3),(true,4),(true,5),(true,6),(true,7)] (by kernel_rfl) (by kernel_rfl) (by intro i hi;simp only [List.mem_cons,List.not_mem_nil,or_false] at hi;rcases hi with rfl <;> exact ⟨_,rfl,rfl,rfl,by simp,fun ρ w=>by kernel_rfl⟩) (by intro i hi;simp only [List.mem_cons,List.not_mem_nil,or_false] at hi;rcases hi with rfl <;> exact ⟨_,rfl,qb9⟩) (fun _ _ _ _ _ h=>h) (fun T Y=>?_)
 refine tk2_ ?_
 refine ck Tryz.call37 (fun w' hw=>qa3 a u1 _ (lh_ HZ6.out) om) ?_
 refine ck Tryz.call39 (fun w' hw=>qc7 b u1 u7 _ HZ7.out om om) ?_
 refine ck Tryz.call33 (fun w' hw=>qi_ u7 _ _ rfl (by simp only [← HZ7.out,← HZ1.out];exact HNV.out) om) ?_
 refine tk3_ ?_
 refine qa1 (Y.out _ _ ?_)
 intro G vw8 hg hf
 simp only [puts,Act.put,lA,lB,lC,lD,lE,↓reduceIte,Nat.reduceEqDiff]
 have J:=lh_ (I.out.fr hg hf (zs:=[(#[.int .u64 0,.string ⟨#[]⟩,.bool false,.int .u64 0,.string ⟨#[]⟩],36)]) rfl (by decide) (by decide))
 simp only [zq1_,zq2_,zq3_,zq4_,lF,lG] at J
 clear Y T I hg hf lx3 lx4
 generalize G 8=gx8 at *
 have lx8:=c3_ J;have fx8:=f3_ J
 have r0:=Gr.refl vw8
 go_wp2
 refine kO O ?_;clear O K
 clear r0 lx8 fx8
 refine fH (((((J.out).put2 3 0 rfl).put2 3 2 rfl).put 3 4 _ rfl).er 2) fun Wx12 I=>?_
 clear J
 have HB:=HPb I
 have hd5:(sa == (0))=false:=by have:¬ (sa=0):=(by first|exact ok|exact HR.out|exact HSQ.out|exact HTM.out|exact HNS.out|decide +kernel|exact qb7 _|(simp only [← HZ7.out,← HZ1.out] <;> first|exact ok|exact HR.out|exact HSQ.out|exact HTM.out|exact HNS.out|decide +kernel|exact qb7 _));simpa using this
 have lx3:=c0_ I
 have lx4:=c1_ I
 have lx8:=c2_ I
 refine kS fun K O=>?_
 refine pd6_ fun T Y=>?_
 refine tk3_ ?_
 refine ck Tryz.call35 (fun w' hw=>qa5 a sa _ HSA.out) ?_
 iterate 10 refine tk ?_
 iterate 7 refine sk ?_
 refine tk3_ ?_
 refine ck Tryz.call22 (fun w' hw=>qa6 _ (lh_ (HT.out.gr (Gr.trans HB.out hw)))) ?_
 refine tk ?_
 refine nlD Y I fun vw9 J=>?_
 clear Y T I lx3 lx4 lx8 HB
 go_wp2
 refine kF_ O ((((J.out).er 2).er 1).er 0) fun Wx13 I=>?_;clear O K
 clear J
 clear hd5
 refine wp_ret ?_
 try simp only [Exit.then,Exit.inBlock]
 exact bodyPost_ret (v:=.bool true) (by simp [results,Tryz.results6,go_sem]) rfl ⟨rfl,I.out.1⟩
theorem xy5 (bbxn:Bool) (vxn:Value) (kxn:Nat) (fxn:Nat→Nat) (mxn:Nat) (ixn:Int) (vxd:Value) (kxd:Nat) (fxd:Nat→Nat) (mxd:Nat) (bbyn:Bool) (vyn:Value) (kyn:Nat) (fyn:Nat→Nat) (myn:Nat) (iyn:Int) (vyd:Value) (kyd:Nat) (fyd:Nat→Nat) (myd:Nat) (b:Rat)  (s:Rat) (w:World) (HWxn:Hid (Wa w vxn kxn fxn)) (HFxn:Hid (∀ i,i<kxn→fxn i<4294967296)) (HVxn:Hid (vl fxn kxn=mxn)) (HAxn:Hid ((if bbxn then -((mxn:Nat):Int) else ((mxn:Nat):Int))=ixn)) (HWxd:Hid (Wa w vxd kxd fxd)) (HFxd:Hid (∀ i,i<kxd→fxd i<4294967296)) (HVxd:Hid (vl fxd kxd=mxd)) (HQx:Hid (mkRat ixn (mxd+1)=(0:Rat))) (HWyn:Hid (Wa w vyn kyn fyn)) (HFyn:Hid (∀ i,i<kyn→fyn i<4294967296)) (HVyn:Hid (vl fyn kyn=myn)) (HAyn:Hid ((if bbyn then -((myn:Nat):Int) else ((myn:Nat):Int))=iyn)) (HWyd:Hid (Wa w vyd kyd fyd)) (HFyd:Hid (∀ i,i<kyd→fyd i<4294967296)) (HVyd:Hid (vl fyd kyd=myd)) (HQy:Hid (mkRat iyn (myd+1)=b)) (hkxn:kxn≤4) (hkxd:kxd≤4) (hkyn:kyn≤4) (hkyd:kyd≤4) (HS:Hid (exq b=s)) (HSQ:Hid (s*s=b)) (HS0:Hid (0≤s)) (hss:sz s≤5) (HT:Hid (Tab w)) :
  Calls Tryz.prog 6 #[.agg #[.bool bbxn,vxn,vxd],.agg #[.bool bbyn,vyn,vyd]] w fun e w'=>e=.returned (.bool true)∧Below w.heap.size w w':=by
 obtain ⟨ao_xn,c_xn,rfl⟩:=HWxn.out.slice
 obtain ⟨ao_xd,c_xd,rfl⟩:=HWxd.out.slice
 have hm_xn:wl mxn≤4:=by rw [← HVxn.out];have:=qa4.2 (qf7 HFxn.out);omega
 have hm_xd:wl mxd≤4:=by rw [← HVxd.out];have:=qa4.2 (qf7 HFxd.out);omega
 have hi_x:wl (Int.natAbs ixn)≤4:=by rw [qn9 HAxn.out];exact hm_xn
 have hs_x:sz (0:Rat)≤5:=by rw [← HQx.out];exact qf6 hi_x hm_xd
 have hr_x:rz (0:Rat)≤15:=by rw [← HQx.out];exact qh1 hi_x hm_xd (by decide)
 obtain ⟨ao_yn,c_yn,rfl⟩:=HWyn.out.slice
 obtain ⟨ao_yd,c_yd,rfl⟩:=HWyd.out.slice
 have hm_yn:wl myn≤4:=by rw [← HVyn.out];have:=qa4.2 (qf7 HFyn.out);omega
 have hm_yd:wl myd≤4:=by rw [← HVyd.out];have:=qa4.2 (qf7 HFyd.out);omega
 have hi_y:wl (Int.natAbs iyn)≤4:=by rw [qn9 HAyn.out];exact hm_yn
 have hs_y:sz b≤5:=by rw [← HQy.out];exact qf6 hi_y hm_yd
 have hr_y:rz b≤15:=by rw [← HQy.out];exact qh1 hi_y hm_yd (by decide)
 go_enter Tryz.func6,Tryz.ntmps6
 have I:=lh_ (hp0 w)
 refine kS fun K O=>?_
 refine wp_region_lit ?_
 go_wp2
 refine kF_ O (((I.out).aL (w.heap.size)).aL (w.heap.size+1)) fun Wx0 J=>?_;clear O K
 clear I;have I:=J;clear J
 generalize w.heap.size+1=gx1 at *
 refine wp_seq ?_
 have hd1:¬ (4<((kxn:Int))):=by first|exact ok|exact HR.out|exact HSQ.out|exact HTM.out|exact HNS.out|decide +kernel|exact qb7 _
 have hd2:¬ (4<((kxd:Int))):=by first|exact ok|exact HR.out|exact HSQ.out|exact HTM.out|exact HNS.out|decide +kernel|exact qb7 _
 have hd3:¬ (4<((kyn:Int))):=by first|exact ok|exact HR.out|exact HSQ.out|exact HTM.out|exact HNS.out|decide +kernel|exact qb7 _
 have hd4:¬ (4<((kyd:Int))):=by first|exact ok|exact HR.out|exact HSQ.out|exact HTM.out|exact HNS.out|decide +kernel|exact qb7 _
 have lx0:=c0_ I
 have lx1:=c1_ I
 refine qs3 fun K O T Y=>?_
 iterate 24 refine tk ?_
 refine nlS Y I fun vw1 J=>?_
 clear Y T I lx0 lx1
 go_wp2
 refine kO O ?_;clear O K
 have I:=J;clear J
 clear hd1 hd2 hd3 hd4
 refine wp_cond_false (by rfl) ?_
 refine wp_skip ?_
 show Code.wp _ _ _ _ _
 have HB:=HPb I
 have lx0:=c0_ I
 have lx1:=c1_ I
 refine kS fun K O=>?_
 refine qa2 6 [4,5] [] (fun i=>if i=4 then 5 else 6) (fun i=>if i=4 then .cells #[.int .u64 0,.string ⟨#[]⟩,.bool false,.int .u64 0,.string ⟨#[]⟩] 36 else .cells #[.int .u64 0,.string ⟨#[]⟩,.bool false,.int .u64 0,.string ⟨#[]⟩] 36) [(true,0),(true,2),(true,1),(true,3)] (by kernel_rfl) (by kernel_rfl) (by intro i hi;simp only [List.mem_cons,List.not_mem_nil,or_false] at hi;rcases hi with rfl|rfl <;> exact ⟨_,rfl,rfl,rfl,by simp,fun ρ w=>by kernel_rfl⟩) (fun i hi=>by cases hi) (fun _ _ _ _ _ h=>h) (fun T Y=>?_)
 refine tk2_ ?_
 refine ck Tryz.call36 (fun w' hw=>qj8 bbxn kxn fxn mxn ixn kxd fxd mxd (0:Rat) ao_xn c_xn ao_xd c_xd w' (lh_ (HWxn.out.gr (Gr.trans HB.out hw))) HFxn HVxn HAxn (lh_ (HWxd.out.gr (Gr.trans HB.out hw))) HFxd HVxd HQx om om om om) ?_
 refine ck Tryz.call36 (fun w' hw=>qj8 bbyn kyn fyn myn iyn kyd fyd myd b ao_yn c_yn ao_yd c_yd w' (lh_ (HWyn.out.gr (Gr.trans HB.out hw))) HFyn HVyn HAyn (lh_ (HWyd.out.gr (Gr.trans HB.out hw))) HFyd HVyd HQy om om om om) ?_
 refine qa1 (Y.out _ _ ?_)
 intro G vw2 hg hf
 simp only [puts,Act.put,lA,lB,lC,lD,lE,↓reduceIte,Nat.reduceEqDiff]
 have J:=lh_ (I.out.fr hg hf (zs:=[(#[.int .u64 0,.string ⟨#[]⟩,.bool false,.int .u64 0,.string ⟨#[]⟩],36),(#[.int .u64 0,.string ⟨#[]⟩,.bool false,.int .u64 0,.string ⟨#[]⟩],36)]) rfl (by decide) (by decide))
 simp only [zq1_,zq2_,zq3_,zq4_,lF,lG] at J
 clear Y T I hg hf lx0 lx1 HB
 generalize G 4=gx3 at *
 generalize G 5=gx4 at *
 have lx3:=c2_ J;have fx3:=f2_ J
 have lx4:=c3_ J;have fx4:=f3_ J
 have r0:=Gr.refl vw2
 obtain ⟨d3_4,d4_3⟩:=J.out.ne 2 3 rfl rfl (by decide)
 go_wp2
 refine kO O ?_;clear O K
 clear r0 lx3 fx3 lx4 fx4 d3_4 d4_3
 refine fH (((((((((J.out).put2 2 0 rfl).put2 2 2 rfl).put 2 4 _ rfl).put2 3 0 rfl).put2 3 2 rfl).put 3 4 _ rfl).er 1).er 0) fun Wx3 I=>?_
 clear J
 have HZ1:Hid ((0:Rat)*(0:Rat)=(0:Rat)):=lh_ (by first|exact ok|exact HR.out|exact HSQ.out|exact HTM.out|exact HNS.out|decide +kernel|exact qb7 _)
 have su1:sz ((0:Rat))≤10:=by have e:=HZ1.out;first|omega|(rw [← e];have:=qb0 (0:Rat) (0:Rat);omega)
 have HZ2:Hid (exq (0:Rat)=(0:Rat)):=lh_ (by first|exact ok|exact HR.out|exact HSQ.out|exact HTM.out|exact HNS.out|decide +kernel|exact qb7 _)
 have su2:sz ((0:Rat))≤10:=by have e:=HZ2.out;first|omega|(rw [← e];exact ql8 om)
 have lx3:=c0_ I
 refine ks6_ fun K O T Y=>?_
 refine tk ?_
 refine ck Tryz.call37 (fun w' hw=>qa3 (0:Rat) (0:Rat) _ (lh_ HZ1.out) om) ?_
 refine ck Tryz.call33 (fun w' hw=>qh2 (0:Rat) (0:Rat) _ HZ2.out (by decide +kernel) om) ?_
 refine tk3_ ?_
 refine nlS Y I fun vw3 J=>?_
 clear Y T I lx3
 go_wp2
 refine kF_ O ((J.out).aL (vw3.heap.size)) fun Wx4 I=>?_;clear O K
 clear J
 generalize vw3.heap.size=gx5 at *
 have HZ3:Hid (exq b=s):=lh_ (HS.out)
 have su3:sz s≤5:=by have e:=HZ3.out;first|omega|(rw [← e];exact ql8 om)
 have lx4:=c1_ I
 refine ks5_ fun K O T Y=>?_
 refine tk ?_
 refine ck Tryz.call33 (fun w' hw=>qh2 b s _ HZ3.out (by first|exact ok|exact HR.out|exact HSQ.out|exact HTM.out|exact HNS.out|decide +kernel|exact qb7 _) om) ?_
 refine tk3_ ?_
 refine nlS Y I fun vw4 J=>?_
 clear Y T I lx4
 go_wp2
 refine kF_ O ((J.out).aL (vw4.heap.size)) fun Wx5 I=>?_;clear O K
 clear J
 generalize vw4.heap.size=gx6 at *
 have HZ4:Hid ((0:Rat)*(0:Rat)=(0:Rat)):=lh_ (by first|exact ok|exact HR.out|exact HSQ.out|exact HTM.out|exact HNS.out|decide +kernel|exact qb7 _)
 have su4:sz ((0:Rat))≤10:=by have e:=HZ4.out;first|omega|(rw [← e];have:=qb0 (0:Rat) (0:Rat);omega)
 have HZ5:Hid (rlo (0:Rat) 64=(0:Rat)):=lh_ (by first|exact ok|exact HR.out|exact HSQ.out|exact HTM.out|exact HNS.out|decide +kernel|exact qb7 _)
 have su5:sz ((0:Rat))≤20:=by have e:=HZ5.out;first|omega|(rw [← e];exact Nat.le_trans (qd2 om om) om)
 have lx3:=c0_ I
 refine ks6_ fun K O T Y=>?_
 refine tk ?_
 refine ck Tryz.call37 (fun w' hw=>qa3 (0:Rat) (0:Rat) _ (lh_ HZ4.out) om) ?_
 refine ck Tryz.call23 (fun w' hw=>qb1 (0:Rat) (0:Rat) 64 _ (lh_ (by exact Rat.le_refl)) (lh_ HZ5.out) om om) ?_
 refine tk3_ ?_
 refine nlS Y I fun vw5 J=>?_
 clear Y T I lx3
 go_wp2
 refine kF_ O ((J.out).aL (vw5.heap.size)) fun Wx6 I=>?_;clear O K
 clear J
 generalize vw5.heap.size=gx7 at *
 refine wp_seq ?_
 have HZ6:Hid (qabs (0:Rat)=(0:Rat)):=lh_ (by first|exact ok|exact HR.out|exact HSQ.out|exact HTM.out|exact HNS.out|decide +kernel|exact qb7 _)
 have su6:sz ((0:Rat))≤5:=by have e:=HZ6.out;first|omega|(rw [← e];rw [qc8];omega)
 have HZ7:Hid (s*(s)=b):=lh_ (by first|exact ok|exact HR.out|exact HSQ.out|exact HTM.out|exact HNS.out|decide +kernel|exact qb7 _)
 have su7:sz b≤10:=by have e:=HZ7.out;first|omega|(rw [← e];have:=qb0 s s;omega)
 obtain ⟨t8,HT8⟩:∃ z,Hid (sgQ s=z):=⟨_,lh_ rfl⟩
 have ht8:0≤t8:=by rw [← HT8.out];exact sgQ_nn0 HS0.out
 have hd5:¬ (t8<0):=by first|exact ok|exact HR.out|exact HSQ.out|exact HTM.out|exact HNS.out|decide +kernel|exact qb7 _
 have lx3:=c0_ I
 have lx4:=c1_ I
 have lx5:=c2_ I
 have lx6:=c3_ I
 have lx7:=c4_ I
 refine kS fun K O=>?_
 refine pd4_ fun T Y=>?_
 refine tk2_ ?_
 refine ck Tryz.call31 (fun w' hw=>qd0 (0:Rat) (0:Rat) _ HZ6.out) ?_
 iterate 10 refine tk ?_
 refine ck Tryz.call37 (fun w' hw=>qa3 s b _ (lh_ HZ7.out) om) ?_
 refine tk3_ ?_
 refine ck Tryz.call35 (fun w' hw=>qa5 s t8 _ HT8.out) ?_
 iterate 8 refine tk ?_
 iterate 3 refine sk ?_
 iterate 5 refine tk ?_
 refine ck Tryz.call38 (fun w' hw=>qa8 (0:Rat) (0:Rat) (0) _ (by have e9:(0:Rat) - (0:Rat)=(0:Rat):=(by first|exact ok|exact HR.out|exact HSQ.out|exact HTM.out|exact HNS.out|decide +kernel|exact qb7 _);exact qe9 e9) om om) ?_
 refine tk ?_
 refine nlD Y I fun vw6 J=>?_
 clear Y T I lx3 lx4 lx5 lx6 lx7
 go_wp2
 refine kF_ O (((J.out).er 4).er 2) fun Wx7 I=>?_;clear O K
 clear J
 clear ht8 hd5
 refine wp_cond_false (by rfl) ?_
 refine wp_skip ?_
 show Code.wp _ _ _ _ _
 refine wp_seq ?_
 have lx3:=c0_ I
 refine ks6_ fun K O T Y=>?_
 refine tk3_ ?_
 refine ck Tryz.call35 (fun w' hw=>qa5 (0:Rat) (0) _ (by have e9:(0:Rat)=(0:Rat):=(by first|exact ok|exact HR.out|exact HSQ.out|exact HTM.out|exact HNS.out|decide +kernel|exact qb7 _);exact qe9 e9)) ?_
 refine tk2_ ?_
 refine nlS Y I fun vw7 J=>?_
 clear Y T I lx3
 go_wp2
 refine kO O ?_;clear O K
 have I:=J;clear J
 refine wp_cond_false (by rfl) ?_
 refine wp_skip ?_
 show Code.wp _ _ _ _ _
 have HZ9:Hid ((0:Rat)*(0:Rat)=(0:Rat)):=lh_ (by first|exact ok|exact HR.out|exact HSQ.out|exact HTM.out|exact HNS.out|decide +kernel|exact qb7 _)
 have su9:sz ((0:Rat))≤10:=by have e:=HZ9.out;first|omega|(rw [← e];have:=qb0 (0:Rat) (0:Rat);omega)
 have HZ10:Hid (b*(0:Rat)=(0:Rat)):=lh_ (by first|exact ok|exact HR.out|exact HSQ.out|exact HTM.out|exact HNS.out|decide +kernel|exact qb7 _)
 have su10:sz ((0:Rat))≤15:=by have e:=HZ10.out;first|omega|(rw [← e];have:=qb0 b (0:Rat);omega)
 have HZ11:Hid (exq (0:Rat)=(0:Rat)):=lh_ (by first|exact ok|exact HR.out|exact HSQ.out|exact HTM.out|exact HNS.out|decide +kernel|exact qb7 _)
 have su11:sz ((0:Rat))≤15:=by have e:=HZ11.out;first|omega|(rw [← e];exact ql8 om)
 have lx3:=c0_ I
 have lx4:=c1_ I
 refine kS fun K O=>?_
 refine qa2 9 [8] [7] (fun _=>15) (fun _=>.cells #[.int .u64 0,.string ⟨#[]⟩,.bool false,.int .u64 0,.string ⟨#[]⟩] 36) [(true,0),(true,1),(true,2),(true,3),(true,4),(true,5),(true,6),(true,7)] (by kernel_rfl) (by kernel_rfl) (by intro i hi;simp only [List.mem_cons,List.not_mem_nil,or_false] at hi;rcases hi with rfl <;> exact ⟨_,rfl,rfl,rfl,by simp,fun ρ w=>by kernel_rfl⟩) (by intro i hi;simp only [List.mem_cons,List.not_mem_nil,or_false] at hi;rcases hi with rfl <;> exact ⟨_,rfl,qb9⟩) (fun _ _ _ _ _ h=>h) (fun T Y=>?_)
 refine tk2_ ?_
 refine ck Tryz.call37 (fun w' hw=>qa3 (0:Rat) (0:Rat) _ (lh_ HZ9.out) om) ?_
 refine ck Tryz.call39 (fun w' hw=>qc7 b (0:Rat) (0:Rat) _ HZ10.out om om) ?_
 refine ck Tryz.call33 (fun w' hw=>qh2 (0:Rat) (0:Rat) _ HZ11.out (by decide +kernel) om) ?_
 refine tk3_ ?_
 refine qa1 (Y.out _ _ ?_)
 intro G vw8 hg hf
 simp only [puts,Act.put,lA,lB,lC,lD,lE,↓reduceIte,Nat.reduceEqDiff]
 have J:=lh_ (I.out.fr hg hf (zs:=[(#[.int .u64 0,.string ⟨#[]⟩,.bool false,.int .u64 0,.string ⟨#[]⟩],36)]) rfl (by decide) (by decide))
 simp only [zq1_,zq2_,zq3_,zq4_,lF,lG] at J
 clear Y T I hg hf lx3 lx4
 generalize G 8=gx8 at *
 have lx8:=c3_ J;have fx8:=f3_ J
 have r0:=Gr.refl vw8
 go_wp2
 refine kO O ?_;clear O K
 clear r0 lx8 fx8
 refine fH (((((J.out).put2 3 0 rfl).put2 3 2 rfl).put 3 4 _ rfl).er 2) fun Wx12 I=>?_
 clear J
 have HB:=HPb I
 have HZ12:Hid ((0:Rat)*(0:Rat)=(0:Rat)):=lh_ (by first|exact ok|exact HR.out|exact HSQ.out|exact HTM.out|exact HNS.out|decide +kernel|exact qb7 _)
 have su12:sz ((0:Rat))≤30:=by have e:=HZ12.out;first|omega|(rw [← e];have:=qb0 (0:Rat) (0:Rat);omega)
 have HZ13:Hid ((0:Rat)*(0:Rat)=(0:Rat)):=lh_ (by first|exact ok|exact HR.out|exact HSQ.out|exact HTM.out|exact HNS.out|decide +kernel|exact qb7 _)
 have su13:sz ((0:Rat))≤10:=by have e:=HZ13.out;first|omega|(rw [← e];have:=qb0 (0:Rat) (0:Rat);omega)
 have HZ14:Hid (b*(0:Rat)=(0:Rat)):=lh_ (by first|exact ok|exact HR.out|exact HSQ.out|exact HTM.out|exact HNS.out|decide +kernel|exact qb7 _)
 have su14:sz ((0:Rat))≤15:=by have e:=HZ14.out;first|omega|(rw [← e];have:=qb0 b (0:Rat);omega)
 have lx3:=c0_ I
 have lx4:=c1_ I
 have lx8:=c2_ I
 refine kS fun K O=>?_
 refine pd6_ fun T Y=>?_
 refine tk2_ ?_
 iterate 3 refine sk ?_
 refine tk2_ ?_
 iterate 2 refine sk ?_
 iterate 8 refine tk ?_
 refine ck Tryz.call37 (fun w' hw=>qa3 (0:Rat) (0:Rat) _ (lh_ HZ12.out) om) ?_
 refine ck Tryz.call37 (fun w' hw=>qa3 (0:Rat) (0:Rat) _ (lh_ HZ13.out) om) ?_
 refine ck Tryz.call39 (fun w' hw=>qc7 b (0:Rat) (0:Rat) _ HZ14.out om om) ?_
 iterate 4 refine tk ?_
 refine ck Tryz.call22 (fun w' hw=>qa6 _ (lh_ (HT.out.gr (Gr.trans HB.out hw)))) ?_
 refine tk ?_
 refine nlD Y I fun vw9 J=>?_
 clear Y T I lx3 lx4 lx8 HB
 go_wp2
 refine kF_ O ((((J.out).er 2).er 1).er 0) fun Wx13 I=>?_;clear O K
 clear J
 refine wp_ret ?_
 try simp only [Exit.then,Exit.inBlock]
 exact bodyPost_ret (v:=.bool true) (by simp [results,Tryz.results6,go_sem]) rfl ⟨rfl,I.out.1⟩
theorem xu7 (bbxn:Bool) (vxn:Value) (kxn:Nat) (fxn:Nat→Nat) (mxn:Nat) (ixn:Int) (vxd:Value) (kxd:Nat) (fxd:Nat→Nat) (mxd:Nat) (bbyn:Bool) (vyn:Value) (kyn:Nat) (fyn:Nat→Nat) (myn:Nat) (iyn:Int) (vyd:Value) (kyd:Nat) (fyd:Nat→Nat) (myd:Nat) (b:Rat)  (w:World) (HWxn:Hid (Wa w vxn kxn fxn)) (HFxn:Hid (∀ i,i<kxn→fxn i<4294967296)) (HVxn:Hid (vl fxn kxn=mxn)) (HAxn:Hid ((if bbxn then -((mxn:Nat):Int) else ((mxn:Nat):Int))=ixn)) (HWxd:Hid (Wa w vxd kxd fxd)) (HFxd:Hid (∀ i,i<kxd→fxd i<4294967296)) (HVxd:Hid (vl fxd kxd=mxd)) (HQx:Hid (mkRat ixn (mxd+1)=(0:Rat))) (HWyn:Hid (Wa w vyn kyn fyn)) (HFyn:Hid (∀ i,i<kyn→fyn i<4294967296)) (HVyn:Hid (vl fyn kyn=myn)) (HAyn:Hid ((if bbyn then -((myn:Nat):Int) else ((myn:Nat):Int))=iyn)) (HWyd:Hid (Wa w vyd kyd fyd)) (HFyd:Hid (∀ i,i<kyd→fyd i<4294967296)) (HVyd:Hid (vl fyd kyd=myd)) (HQy:Hid (mkRat iyn (myd+1)=b)) (hkxn:kxn≤4) (hkxd:kxd≤4) (hkyn:kyn≤4) (hkyd:kyd≤4) (HNS:Hid (¬ exq b*exq b=b)) (HT:Hid (Tab w)) :
  Calls Tryz.prog 6 #[.agg #[.bool bbxn,vxn,vxd],.agg #[.bool bbyn,vyn,vyd]] w fun e w'=>e=.returned (.bool true)∧Below w.heap.size w w':=by
 obtain ⟨ao_xn,c_xn,rfl⟩:=HWxn.out.slice
 obtain ⟨ao_xd,c_xd,rfl⟩:=HWxd.out.slice
 have hm_xn:wl mxn≤4:=by rw [← HVxn.out];have:=qa4.2 (qf7 HFxn.out);omega
 have hm_xd:wl mxd≤4:=by rw [← HVxd.out];have:=qa4.2 (qf7 HFxd.out);omega
 have hi_x:wl (Int.natAbs ixn)≤4:=by rw [qn9 HAxn.out];exact hm_xn
 have hs_x:sz (0:Rat)≤5:=by rw [← HQx.out];exact qf6 hi_x hm_xd
 have hr_x:rz (0:Rat)≤15:=by rw [← HQx.out];exact qh1 hi_x hm_xd (by decide)
 obtain ⟨ao_yn,c_yn,rfl⟩:=HWyn.out.slice
 obtain ⟨ao_yd,c_yd,rfl⟩:=HWyd.out.slice
 have hm_yn:wl myn≤4:=by rw [← HVyn.out];have:=qa4.2 (qf7 HFyn.out);omega
 have hm_yd:wl myd≤4:=by rw [← HVyd.out];have:=qa4.2 (qf7 HFyd.out);omega
 have hi_y:wl (Int.natAbs iyn)≤4:=by rw [qn9 HAyn.out];exact hm_yn
 have hs_y:sz b≤5:=by rw [← HQy.out];exact qf6 hi_y hm_yd
 have hr_y:rz b≤15:=by rw [← HQy.out];exact qh1 hi_y hm_yd (by decide)
 go_enter Tryz.func6,Tryz.ntmps6
 have I:=lh_ (hp0 w)
 refine kS fun K O=>?_
 refine wp_region_lit ?_
 go_wp2
 refine kF_ O (((I.out).aL (w.heap.size)).aL (w.heap.size+1)) fun Wx0 J=>?_;clear O K
 clear I;have I:=J;clear J
 generalize w.heap.size+1=gx1 at *
 refine wp_seq ?_
 have hd1:¬ (4<((kxn:Int))):=by first|exact ok|exact HR.out|exact HSQ.out|exact HTM.out|exact HNS.out|decide +kernel|exact qb7 _
 have hd2:¬ (4<((kxd:Int))):=by first|exact ok|exact HR.out|exact HSQ.out|exact HTM.out|exact HNS.out|decide +kernel|exact qb7 _
 have hd3:¬ (4<((kyn:Int))):=by first|exact ok|exact HR.out|exact HSQ.out|exact HTM.out|exact HNS.out|decide +kernel|exact qb7 _
 have hd4:¬ (4<((kyd:Int))):=by first|exact ok|exact HR.out|exact HSQ.out|exact HTM.out|exact HNS.out|decide +kernel|exact qb7 _
 have lx0:=c0_ I
 have lx1:=c1_ I
 refine qs3 fun K O T Y=>?_
 iterate 24 refine tk ?_
 refine nlS Y I fun vw1 J=>?_
 clear Y T I lx0 lx1
 go_wp2
 refine kO O ?_;clear O K
 have I:=J;clear J
 clear hd1 hd2 hd3 hd4
 refine wp_cond_false (by rfl) ?_
 refine wp_skip ?_
 show Code.wp _ _ _ _ _
 have HB:=HPb I
 have lx0:=c0_ I
 have lx1:=c1_ I
 refine kS fun K O=>?_
 refine qa2 6 [4,5] [] (fun i=>if i=4 then 5 else 6) (fun i=>if i=4 then .cells #[.int .u64 0,.string ⟨#[]⟩,.bool false,.int .u64 0,.string ⟨#[]⟩] 36 else .cells #[.int .u64 0,.string ⟨#[]⟩,.bool false,.int .u64 0,.string ⟨#[]⟩] 36) [(true,0),(true,2),(true,1),(true,3)] (by kernel_rfl) (by kernel_rfl) (by intro i hi;simp only [List.mem_cons,List.not_mem_nil,or_false] at hi;rcases hi with rfl|rfl <;> exact ⟨_,rfl,rfl,rfl,by simp,fun ρ w=>by kernel_rfl⟩) (fun i hi=>by cases hi) (fun _ _ _ _ _ h=>h) (fun T Y=>?_)
 refine tk2_ ?_
 refine ck Tryz.call36 (fun w' hw=>qj8 bbxn kxn fxn mxn ixn kxd fxd mxd (0:Rat) ao_xn c_xn ao_xd c_xd w' (lh_ (HWxn.out.gr (Gr.trans HB.out hw))) HFxn HVxn HAxn (lh_ (HWxd.out.gr (Gr.trans HB.out hw))) HFxd HVxd HQx om om om om) ?_
 refine ck Tryz.call36 (fun w' hw=>qj8 bbyn kyn fyn myn iyn kyd fyd myd b ao_yn c_yn ao_yd c_yd w' (lh_ (HWyn.out.gr (Gr.trans HB.out hw))) HFyn HVyn HAyn (lh_ (HWyd.out.gr (Gr.trans HB.out hw))) HFyd HVyd HQy om om om om) ?_
 refine qa1 (Y.out _ _ ?_)
 intro G vw2 hg hf
 simp only [puts,Act.put,lA,lB,lC,lD,lE,↓reduceIte,Nat.reduceEqDiff]
 have J:=lh_ (I.out.fr hg hf (zs:=[(#[.int .u64 0,.string ⟨#[]⟩,.bool false,.int .u64 0,.string ⟨#[]⟩],36),(#[.int .u64 0,.string ⟨#[]⟩,.bool false,.int .u64 0,.string ⟨#[]⟩],36)]) rfl (by decide) (by decide))
 simp only [zq1_,zq2_,zq3_,zq4_,lF,lG] at J
 clear Y T I hg hf lx0 lx1 HB
 generalize G 4=gx3 at *
 generalize G 5=gx4 at *
 have lx3:=c2_ J;have fx3:=f2_ J
 have lx4:=c3_ J;have fx4:=f3_ J
 have r0:=Gr.refl vw2
 obtain ⟨d3_4,d4_3⟩:=J.out.ne 2 3 rfl rfl (by decide)
 go_wp2
 refine kO O ?_;clear O K
 clear r0 lx3 fx3 lx4 fx4 d3_4 d4_3
 refine fH (((((((((J.out).put2 2 0 rfl).put2 2 2 rfl).put 2 4 _ rfl).put2 3 0 rfl).put2 3 2 rfl).put 3 4 _ rfl).er 1).er 0) fun Wx3 I=>?_
 clear J
 have HZ1:Hid ((0:Rat)*(0:Rat)=(0:Rat)):=lh_ (by first|exact ok|exact HR.out|exact HSQ.out|exact HTM.out|exact HNS.out|decide +kernel|exact qb7 _)
 have su1:sz ((0:Rat))≤10:=by have e:=HZ1.out;first|omega|(rw [← e];have:=qb0 (0:Rat) (0:Rat);omega)
 have HZ2:Hid (exq (0:Rat)=(0:Rat)):=lh_ (by first|exact ok|exact HR.out|exact HSQ.out|exact HTM.out|exact HNS.out|decide +kernel|exact qb7 _)
 have su2:sz ((0:Rat))≤10:=by have e:=HZ2.out;first|omega|(rw [← e];exact ql8 om)
 have lx3:=c0_ I
 refine ks6_ fun K O T Y=>?_
 refine tk ?_
 refine ck Tryz.call37 (fun w' hw=>qa3 (0:Rat) (0:Rat) _ (lh_ HZ1.out) om) ?_
 refine ck Tryz.call33 (fun w' hw=>qh2 (0:Rat) (0:Rat) _ HZ2.out (by decide +kernel) om) ?_
 refine tk3_ ?_
 refine nlS Y I fun vw3 J=>?_
 clear Y T I lx3
 go_wp2
 refine kF_ O ((J.out).aL (vw3.heap.size)) fun Wx4 I=>?_;clear O K
 clear J
 generalize vw3.heap.size=gx5 at *
 have lx4:=c1_ I
 refine ks5_ fun K O T Y=>?_
 refine tk ?_
 refine ck Tryz.call33 (fun w' hw=>qi_ b _ _ rfl (by first|exact ok|exact HR.out|exact HSQ.out|exact HTM.out|exact HNS.out|decide +kernel|exact qb7 _) om) ?_
 refine tk3_ ?_
 refine nlS Y I fun vw4 J=>?_
 clear Y T I lx4
 go_wp2
 refine kF_ O ((J.out).aL (vw4.heap.size)) fun Wx5 I=>?_;clear O K
 clear J
 generalize vw4.heap.size=gx6 at *
 have HZ3:Hid ((0:Rat)*(0:Rat)=(0:Rat)):=lh_ (by first|exact ok|exact HR.out|exact HSQ.out|exact HTM.out|exact HNS.out|decide +kernel|exact qb7 _)
 have su3:sz ((0:Rat))≤10:=by have e:=HZ3.out;first|omega|(rw [← e];have:=qb0 (0:Rat) (0:Rat);omega)
 have HZ4:Hid (rlo (0:Rat) 64=(0:Rat)):=lh_ (by first|exact ok|exact HR.out|exact HSQ.out|exact HTM.out|exact HNS.out|decide +kernel|exact qb7 _)
 have su4:sz ((0:Rat))≤20:=by have e:=HZ4.out;first|omega|(rw [← e];exact Nat.le_trans (qd2 om om) om)
 have lx3:=c0_ I
 refine ks6_ fun K O T Y=>?_
 refine tk ?_
 refine ck Tryz.call37 (fun w' hw=>qa3 (0:Rat) (0:Rat) _ (lh_ HZ3.out) om) ?_
 refine ck Tryz.call23 (fun w' hw=>qb1 (0:Rat) (0:Rat) 64 _ (lh_ (by exact Rat.le_refl)) (lh_ HZ4.out) om om) ?_
 refine tk3_ ?_
 refine nlS Y I fun vw5 J=>?_
 clear Y T I lx3
 go_wp2
 refine kF_ O ((J.out).aL (vw5.heap.size)) fun Wx6 I=>?_;clear O K
 clear J
 generalize vw5.heap.size=gx7 at *
 refine wp_seq ?_
 have HZ5:Hid (qabs (0:Rat)=(0:Rat)):=lh_ (by first|exact ok|exact HR.out|exact HSQ.out|exact HTM.out|exact HNS.out|decide +kernel|exact qb7 _)
 have su5:sz ((0:Rat))≤5:=by have e:=HZ5.out;first|omega|(rw [← e];rw [qc8];omega)
 have lx3:=c0_ I
 have lx4:=c1_ I
 have lx5:=c2_ I
 have lx6:=c3_ I
 have lx7:=c4_ I
 refine kS fun K O=>?_
 refine pd4_ fun T Y=>?_
 refine tk2_ ?_
 refine ck Tryz.call31 (fun w' hw=>qd0 (0:Rat) (0:Rat) _ HZ5.out) ?_
 iterate 8 refine tk ?_
 iterate 9 refine sk ?_
 iterate 14 refine tk ?_
 refine ck Tryz.call38 (fun w' hw=>qa8 (0:Rat) (0:Rat) (0) _ (by have e9:(0:Rat) - (0:Rat)=(0:Rat):=(by first|exact ok|exact HR.out|exact HSQ.out|exact HTM.out|exact HNS.out|decide +kernel|exact qb7 _);exact qe9 e9) om om) ?_
 refine tk ?_
 refine nlD Y I fun vw6 J=>?_
 clear Y T I lx3 lx4 lx5 lx6 lx7
 go_wp2
 refine kF_ O (((J.out).er 4).er 2) fun Wx7 I=>?_;clear O K
 clear J
 refine wp_cond_false (by rfl) ?_
 refine wp_skip ?_
 show Code.wp _ _ _ _ _
 refine wp_seq ?_
 have lx3:=c0_ I
 refine ks6_ fun K O T Y=>?_
 refine tk2_ ?_
 iterate 3 refine sk ?_
 refine tk ?_
 refine nlS Y I fun vw7 J=>?_
 clear Y T I lx3
 go_wp2
 refine kO O ?_;clear O K
 have I:=J;clear J
 refine wp_cond_false (by rfl) ?_
 refine wp_skip ?_
 show Code.wp _ _ _ _ _
 have HZ6:Hid ((0:Rat)*(0:Rat)=(0:Rat)):=lh_ (by first|exact ok|exact HR.out|exact HSQ.out|exact HTM.out|exact HNS.out|decide +kernel|exact qb7 _)
 have su6:sz ((0:Rat))≤10:=by have e:=HZ6.out;first|omega|(rw [← e];have:=qb0 (0:Rat) (0:Rat);omega)
 have HZ7:Hid (b*(0:Rat)=(0:Rat)):=lh_ (by first|exact ok|exact HR.out|exact HSQ.out|exact HTM.out|exact HNS.out|decide +kernel|exact qb7 _)
 have su7:sz ((0:Rat))≤15:=by have e:=HZ7.out;first|omega|(rw [← e];have:=qb0 b (0:Rat);omega)
 have HZ8:Hid (exq (0:Rat)=(0:Rat)):=lh_ (by first|exact ok|exact HR.out|exact HSQ.out|exact HTM.out|exact HNS.out|decide +kernel|exact qb7 _)
 have su8:sz ((0:Rat))≤15:=by have e:=HZ8.out;first|omega|(rw [← e];exact ql8 om)
 have lx3:=c0_ I
 have lx4:=c1_ I
 refine kS fun K O=>?_
 refine qa2 9 [8] [7] (fun _=>15) (fun _=>.cells #[.int .u64 0,.string ⟨#[]⟩,.bool false,.int .u64 0,.string ⟨#[]⟩] 36) [(true,0),(true,1),(true,2),(true,3),(true,4),(true,5),(true,6),(true,7)] (by kernel_rfl) (by kernel_rfl) (by intro i hi;simp only [List.mem_cons,List.not_mem_nil,or_false] at hi;rcases hi with rfl <;> exact ⟨_,rfl,rfl,rfl,by simp,fun ρ w=>by kernel_rfl⟩) (by intro i hi;simp only [List.mem_cons,List.not_mem_nil,or_false] at hi;rcases hi with rfl <;> exact ⟨_,rfl,qb9⟩) (fun _ _ _ _ _ h=>h) (fun T Y=>?_)
 refine tk2_ ?_
 refine ck Tryz.call37 (fun w' hw=>qa3 (0:Rat) (0:Rat) _ (lh_ HZ6.out) om) ?_
 refine ck Tryz.call39 (fun w' hw=>qc7 b (0:Rat) (0:Rat) _ HZ7.out om om) ?_
 refine ck Tryz.call33 (fun w' hw=>qh2 (0:Rat) (0:Rat) _ HZ8.out (by decide +kernel) om) ?_
 refine tk3_ ?_
 refine qa1 (Y.out _ _ ?_)
 intro G vw8 hg hf
 simp only [puts,Act.put,lA,lB,lC,lD,lE,↓reduceIte,Nat.reduceEqDiff]
 have J:=lh_ (I.out.fr hg hf (zs:=[(#[.int .u64 0,.string ⟨#[]⟩,.bool false,.int .u64 0,.string ⟨#[]⟩],36)]) rfl (by decide) (by decide))
 simp only [zq1_,zq2_,zq3_,zq4_,lF,lG] at J
 clear Y T I hg hf lx3 lx4
 generalize G 8=gx8 at *
 have lx8:=c3_ J;have fx8:=f3_ J
 have r0:=Gr.refl vw8
 go_wp2
 refine kO O ?_;clear O K
 clear r0 lx8 fx8
 refine fH (((((J.out).put2 3 0 rfl).put2 3 2 rfl).put 3 4 _ rfl).er 2) fun Wx12 I=>?_
 clear J
 have HB:=HPb I
 have HZ9:Hid ((0:Rat)*(0:Rat)=(0:Rat)):=lh_ (by first|exact ok|exact HR.out|exact HSQ.out|exact HTM.out|exact HNS.out|decide +kernel|exact qb7 _)
 have su9:sz ((0:Rat))≤30:=by have e:=HZ9.out;first|omega|(rw [← e];have:=qb0 (0:Rat) (0:Rat);omega)
 have HZ10:Hid ((0:Rat)*(0:Rat)=(0:Rat)):=lh_ (by first|exact ok|exact HR.out|exact HSQ.out|exact HTM.out|exact HNS.out|decide +kernel|exact qb7 _)
 have su10:sz ((0:Rat))≤10:=by have e:=HZ10.out;first|omega|(rw [← e];have:=qb0 (0:Rat) (0:Rat);omega)
 have HZ11:Hid (b*(0:Rat)=(0:Rat)):=lh_ (by first|exact ok|exact HR.out|exact HSQ.out|exact HTM.out|exact HNS.out|decide +kernel|exact qb7 _)
 have su11:sz ((0:Rat))≤15:=by have e:=HZ11.out;first|omega|(rw [← e];have:=qb0 b (0:Rat);omega)
 have lx3:=c0_ I
 have lx4:=c1_ I
 have lx8:=c2_ I
 refine kS fun K O=>?_
 refine pd6_ fun T Y=>?_
 refine tk3_ ?_
 refine ck Tryz.call35 (fun w' hw=>qa5 (0:Rat) (0) _ (by have e9:(0:Rat)=(0:Rat):=(by first|exact ok|exact HR.out|exact HSQ.out|exact HTM.out|exact HNS.out|decide +kernel|exact qb7 _);exact qe9 e9)) ?_
 refine tk3_ ?_
 iterate 2 refine sk ?_
 iterate 8 refine tk ?_
 refine ck Tryz.call37 (fun w' hw=>qa3 (0:Rat) (0:Rat) _ (lh_ HZ9.out) om) ?_
 refine ck Tryz.call37 (fun w' hw=>qa3 (0:Rat) (0:Rat) _ (lh_ HZ10.out) om) ?_
 refine ck Tryz.call39 (fun w' hw=>qc7 b (0:Rat) (0:Rat) _ HZ11.out om om) ?_
 iterate 4 refine tk ?_
 refine ck Tryz.call22 (fun w' hw=>qa6 _ (lh_ (HT.out.gr (Gr.trans HB.out hw)))) ?_
 refine tk ?_
 refine nlD Y I fun vw9 J=>?_
 clear Y T I lx3 lx4 lx8 HB
 go_wp2
 refine kF_ O ((((J.out).er 2).er 1).er 0) fun Wx13 I=>?_;clear O K
 clear J
 refine wp_ret ?_
 try simp only [Exit.then,Exit.inBlock]
 exact bodyPost_ret (v:=.bool true) (by simp [results,Tryz.results6,go_sem]) rfl ⟨rfl,I.out.1⟩
theorem qZ9 (bbxn:Bool) (vxn:Value) (kxn:Nat) (fxn:Nat→Nat) (mxn:Nat) (ixn:Int) (vxd:Value) (kxd:Nat) (fxd:Nat→Nat) (mxd:Nat) (bbyn:Bool) (vyn:Value) (kyn:Nat) (fyn:Nat→Nat) (myn:Nat) (iyn:Int) (vyd:Value) (kyd:Nat) (fyd:Nat→Nat) (myd:Nat) (a b:Rat)  (w:World) (HWxn:Hid (Wa w vxn kxn fxn)) (HFxn:Hid (∀ i,i<kxn→fxn i<4294967296)) (HVxn:Hid (vl fxn kxn=mxn)) (HAxn:Hid ((if bbxn then -((mxn:Nat):Int) else ((mxn:Nat):Int))=ixn)) (HWxd:Hid (Wa w vxd kxd fxd)) (HFxd:Hid (∀ i,i<kxd→fxd i<4294967296)) (HVxd:Hid (vl fxd kxd=mxd)) (HQx:Hid (mkRat ixn (mxd+1)=a)) (HWyn:Hid (Wa w vyn kyn fyn)) (HFyn:Hid (∀ i,i<kyn→fyn i<4294967296)) (HVyn:Hid (vl fyn kyn=myn)) (HAyn:Hid ((if bbyn then -((myn:Nat):Int) else ((myn:Nat):Int))=iyn)) (HWyd:Hid (Wa w vyd kyd fyd)) (HFyd:Hid (∀ i,i<kyd→fyd i<4294967296)) (HVyd:Hid (vl fyd kyd=myd)) (HQy:Hid (mkRat iyn (myd+1)=b))  (hkxn:4<kxn) (HT:Hid (Tab w)) :
  Calls Tryz.prog 6 #[.agg #[.bool bbxn,vxn,vxd],.agg #[.bool bbyn,vyn,vyd]] w fun e w'=>e=.returned (.bool true)∧Below w.heap.size w w':=by
 obtain ⟨ao_xn,c_xn,rfl⟩:=HWxn.out.slice
 obtain ⟨ao_xd,c_xd,rfl⟩:=HWxd.out.slice
 obtain ⟨ao_yn,c_yn,rfl⟩:=HWyn.out.slice
 obtain ⟨ao_yd,c_yd,rfl⟩:=HWyd.out.slice
 go_enter Tryz.func6,Tryz.ntmps6
 have I:=lh_ (hp0 w)
 refine kS fun K O=>?_
 refine wp_region_lit ?_
 go_wp2
 refine kF_ O (((I.out).aL (w.heap.size)).aL (w.heap.size+1)) fun Wx0 J=>?_;clear O K
 clear I;have I:=J;clear J
 generalize w.heap.size+1=gx1 at *
 refine wp_seq ?_
 have hd1:4<((kxn:Int)):=ok
 have lx0:=c0_ I
 refine qs3 fun K O T Y=>?_
 iterate 6 refine tk ?_
 iterate 4 refine sk ?_
 refine tk2_ ?_
 iterate 5 refine sk ?_
 refine tk2_ ?_
 iterate 4 refine sk ?_
 refine tk ?_
 refine nlS Y I fun vw1 J=>?_
 clear Y T I lx0
 go_wp2
 refine kO O ?_;clear O K
 have I:=J;clear J
 clear hd1
 refine wp_cond_true (by rfl) ?_
 have HB:=HPb I
 refine ks2_ fun K O T Y=>?_
 refine ck Tryz.call22 (fun w' hw=>qa6 _ (lh_ (HT.out.gr (Gr.trans HB.out hw)))) ?_
 refine tk ?_
 refine nlS Y I fun vw2 J=>?_
 clear Y T I HB
 go_wp2
 refine kO O ?_;clear O K
 have I:=J;clear J
 refine wp_ret ?_
 try simp only [Exit.then,Exit.inBlock]
 exact bodyPost_ret (v:=.bool true) (by simp [results,Tryz.results6,go_sem]) rfl ⟨rfl,I.out.1⟩
theorem xd0 (bbxn:Bool) (vxn:Value) (kxn:Nat) (fxn:Nat→Nat) (mxn:Nat) (ixn:Int) (vxd:Value) (kxd:Nat) (fxd:Nat→Nat) (mxd:Nat) (bbyn:Bool) (vyn:Value) (kyn:Nat) (fyn:Nat→Nat) (myn:Nat) (iyn:Int) (vyd:Value) (kyd:Nat) (fyd:Nat→Nat) (myd:Nat) (a b:Rat)  (w:World) (HWxn:Hid (Wa w vxn kxn fxn)) (HFxn:Hid (∀ i,i<kxn→fxn i<4294967296)) (HVxn:Hid (vl fxn kxn=mxn)) (HAxn:Hid ((if bbxn then -((mxn:Nat):Int) else ((mxn:Nat):Int))=ixn)) (HWxd:Hid (Wa w vxd kxd fxd)) (HFxd:Hid (∀ i,i<kxd→fxd i<4294967296)) (HVxd:Hid (vl fxd kxd=mxd)) (HQx:Hid (mkRat ixn (mxd+1)=a)) (HWyn:Hid (Wa w vyn kyn fyn)) (HFyn:Hid (∀ i,i<kyn→fyn i<4294967296)) (HVyn:Hid (vl fyn kyn=myn)) (HAyn:Hid ((if bbyn then -((myn:Nat):Int) else ((myn:Nat):Int))=iyn)) (HWyd:Hid (Wa w vyd kyd fyd)) (HFyd:Hid (∀ i,i<kyd→fyd i<4294967296)) (HVyd:Hid (vl fyd kyd=myd)) (HQy:Hid (mkRat iyn (myd+1)=b)) (hkxn:kxn≤4) (hkxd:4<kxd) (HT:Hid (Tab w)) :
  Calls Tryz.prog 6 #[.agg #[.bool bbxn,vxn,vxd],.agg #[.bool bbyn,vyn,vyd]] w fun e w'=>e=.returned (.bool true)∧Below w.heap.size w w':=by
 obtain ⟨ao_xn,c_xn,rfl⟩:=HWxn.out.slice
 obtain ⟨ao_xd,c_xd,rfl⟩:=HWxd.out.slice
 obtain ⟨ao_yn,c_yn,rfl⟩:=HWyn.out.slice
 obtain ⟨ao_yd,c_yd,rfl⟩:=HWyd.out.slice
 go_enter Tryz.func6,Tryz.ntmps6
 have I:=lh_ (hp0 w)
 refine kS fun K O=>?_
 refine wp_region_lit ?_
 go_wp2
 refine kF_ O (((I.out).aL (w.heap.size)).aL (w.heap.size+1)) fun Wx0 J=>?_;clear O K
 clear I;have I:=J;clear J
 generalize w.heap.size+1=gx1 at *
 refine wp_seq ?_
 have hd1:¬ (4<((kxn:Int))):=ok
 have hd2:4<((kxd:Int)):=ok
 have lx0:=c0_ I
 refine qs3 fun K O T Y=>?_
 iterate 12 refine tk ?_
 iterate 5 refine sk ?_
 refine tk2_ ?_
 iterate 4 refine sk ?_
 refine tk ?_
 refine nlS Y I fun vw1 J=>?_
 clear Y T I lx0
 go_wp2
 refine kO O ?_;clear O K
 have I:=J;clear J
 clear hd1 hd2
 refine wp_cond_true (by rfl) ?_
 have HB:=HPb I
 refine ks2_ fun K O T Y=>?_
 refine ck Tryz.call22 (fun w' hw=>qa6 _ (lh_ (HT.out.gr (Gr.trans HB.out hw)))) ?_
 refine tk ?_
 refine nlS Y I fun vw2 J=>?_
 clear Y T I HB
 go_wp2
 refine kO O ?_;clear O K
 have I:=J;clear J
 refine wp_ret ?_
 try simp only [Exit.then,Exit.inBlock]
 exact bodyPost_ret (v:=.bool true) (by simp [results,Tryz.results6,go_sem]) rfl ⟨rfl,I.out.1⟩
theorem xf8 (bbxn:Bool) (vxn:Value) (kxn:Nat) (fxn:Nat→Nat) (mxn:Nat) (ixn:Int) (vxd:Value) (kxd:Nat) (fxd:Nat→Nat) (mxd:Nat) (bbyn:Bool) (vyn:Value) (kyn:Nat) (fyn:Nat→Nat) (myn:Nat) (iyn:Int) (vyd:Value) (kyd:Nat) (fyd:Nat→Nat) (myd:Nat) (a b:Rat)  (w:World) (HWxn:Hid (Wa w vxn kxn fxn)) (HFxn:Hid (∀ i,i<kxn→fxn i<4294967296)) (HVxn:Hid (vl fxn kxn=mxn)) (HAxn:Hid ((if bbxn then -((mxn:Nat):Int) else ((mxn:Nat):Int))=ixn)) (HWxd:Hid (Wa w vxd kxd fxd)) (HFxd:Hid (∀ i,i<kxd→fxd i<4294967296)) (HVxd:Hid (vl fxd kxd=mxd)) (HQx:Hid (mkRat ixn (mxd+1)=a)) (HWyn:Hid (Wa w vyn kyn fyn)) (HFyn:Hid (∀ i,i<kyn→fyn i<4294967296)) (HVyn:Hid (vl fyn kyn=myn)) (HAyn:Hid ((if bbyn then -((myn:Nat):Int) else ((myn:Nat):Int))=iyn)) (HWyd:Hid (Wa w vyd kyd fyd)) (HFyd:Hid (∀ i,i<kyd→fyd i<4294967296)) (HVyd:Hid (vl fyd kyd=myd)) (HQy:Hid (mkRat iyn (myd+1)=b)) (hkxn:kxn≤4) (hkxd:kxd≤4) (hkyn:4<kyn) (HT:Hid (Tab w)) :
  Calls Tryz.prog 6 #[.agg #[.bool bbxn,vxn,vxd],.agg #[.bool bbyn,vyn,vyd]] w fun e w'=>e=.returned (.bool true)∧Below w.heap.size w w':=by
 obtain ⟨ao_xn,c_xn,rfl⟩:=HWxn.out.slice
 obtain ⟨ao_xd,c_xd,rfl⟩:=HWxd.out.slice
 obtain ⟨ao_yn,c_yn,rfl⟩:=HWyn.out.slice
 obtain ⟨ao_yd,c_yd,rfl⟩:=HWyd.out.slice
 go_enter Tryz.func6,Tryz.ntmps6
 have I:=lh_ (hp0 w)
 refine kS fun K O=>?_
 refine wp_region_lit ?_
 go_wp2
 refine kF_ O (((I.out).aL (w.heap.size)).aL (w.heap.size+1)) fun Wx0 J=>?_;clear O K
 clear I;have I:=J;clear J
 generalize w.heap.size+1=gx1 at *
 refine wp_seq ?_
 have hd1:¬ (4<((kxn:Int))):=ok
 have hd2:¬ (4<((kxd:Int))):=ok
 have hd3:4<((kyn:Int)):=ok
 have lx0:=c0_ I
 have lx1:=c1_ I
 refine qs3 fun K O T Y=>?_
 iterate 19 refine tk ?_
 iterate 4 refine sk ?_
 refine tk ?_
 refine nlS Y I fun vw1 J=>?_
 clear Y T I lx0 lx1
 go_wp2
 refine kO O ?_;clear O K
 have I:=J;clear J
 clear hd1 hd2 hd3
 refine wp_cond_true (by rfl) ?_
 have HB:=HPb I
 refine ks2_ fun K O T Y=>?_
 refine ck Tryz.call22 (fun w' hw=>qa6 _ (lh_ (HT.out.gr (Gr.trans HB.out hw)))) ?_
 refine tk ?_
 refine nlS Y I fun vw2 J=>?_
 clear Y T I HB
 go_wp2
 refine kO O ?_;clear O K
 have I:=J;clear J
 refine wp_ret ?_
 try simp only [Exit.then,Exit.inBlock]
 exact bodyPost_ret (v:=.bool true) (by simp [results,Tryz.results6,go_sem]) rfl ⟨rfl,I.out.1⟩
theorem xd9 (bbxn:Bool) (vxn:Value) (kxn:Nat) (fxn:Nat→Nat) (mxn:Nat) (ixn:Int) (vxd:Value) (kxd:Nat) (fxd:Nat→Nat) (mxd:Nat) (bbyn:Bool) (vyn:Value) (kyn:Nat) (fyn:Nat→Nat) (myn:Nat) (iyn:Int) (vyd:Value) (kyd:Nat) (fyd:Nat→Nat) (myd:Nat) (a b:Rat)  (w:World) (HWxn:Hid (Wa w vxn kxn fxn)) (HFxn:Hid (∀ i,i<kxn→fxn i<4294967296)) (HVxn:Hid (vl fxn kxn=mxn)) (HAxn:Hid ((if bbxn then -((mxn:Nat):Int) else ((mxn:Nat):Int))=ixn)) (HWxd:Hid (Wa w vxd kxd fxd)) (HFxd:Hid (∀ i,i<kxd→fxd i<4294967296)) (HVxd:Hid (vl fxd kxd=mxd)) (HQx:Hid (mkRat ixn (mxd+1)=a)) (HWyn:Hid (Wa w vyn kyn fyn)) (HFyn:Hid (∀ i,i<kyn→fyn i<4294967296)) (HVyn:Hid (vl fyn kyn=myn)) (HAyn:Hid ((if bbyn then -((myn:Nat):Int) else ((myn:Nat):Int))=iyn)) (HWyd:Hid (Wa w vyd kyd fyd)) (HFyd:Hid (∀ i,i<kyd→fyd i<4294967296)) (HVyd:Hid (vl fyd kyd=myd)) (HQy:Hid (mkRat iyn (myd+1)=b)) (hkxn:kxn≤4) (hkxd:kxd≤4) (hkyn:kyn≤4) (hkyd:4<kyd) (HT:Hid (Tab w)) :
  Calls Tryz.prog 6 #[.agg #[.bool bbxn,vxn,vxd],.agg #[.bool bbyn,vyn,vyd]] w fun e w'=>e=.returned (.bool true)∧Below w.heap.size w w':=by
 obtain ⟨ao_xn,c_xn,rfl⟩:=HWxn.out.slice
 obtain ⟨ao_xd,c_xd,rfl⟩:=HWxd.out.slice
 obtain ⟨ao_yn,c_yn,rfl⟩:=HWyn.out.slice
 obtain ⟨ao_yd,c_yd,rfl⟩:=HWyd.out.slice
 go_enter Tryz.func6,Tryz.ntmps6
 have I:=lh_ (hp0 w)
 refine kS fun K O=>?_
 refine wp_region_lit ?_
 go_wp2
 refine kF_ O (((I.out).aL (w.heap.size)).aL (w.heap.size+1)) fun Wx0 J=>?_;clear O K
 clear I;have I:=J;clear J
 generalize w.heap.size+1=gx1 at *
 refine wp_seq ?_
 have hd1:¬ (4<((kxn:Int))):=ok
 have hd2:¬ (4<((kxd:Int))):=ok
 have hd3:¬ (4<((kyn:Int))):=ok
 have hd4:4<((kyd:Int)):=ok
 have lx0:=c0_ I
 have lx1:=c1_ I
 refine qs3 fun K O T Y=>?_
 iterate 24 refine tk ?_
 refine nlS Y I fun vw1 J=>?_
 clear Y T I lx0 lx1
 go_wp2
 refine kO O ?_;clear O K
 have I:=J;clear J
 clear hd1 hd2 hd3 hd4
 refine wp_cond_true (by rfl) ?_
 have HB:=HPb I
 refine ks2_ fun K O T Y=>?_
 refine ck Tryz.call22 (fun w' hw=>qa6 _ (lh_ (HT.out.gr (Gr.trans HB.out hw)))) ?_
 refine tk ?_
 refine nlS Y I fun vw2 J=>?_
 clear Y T I HB
 go_wp2
 refine kO O ?_;clear O K
 have I:=J;clear J
 refine wp_ret ?_
 try simp only [Exit.then,Exit.inBlock]
 exact bodyPost_ret (v:=.bool true) (by simp [results,Tryz.results6,go_sem]) rfl ⟨rfl,I.out.1⟩
theorem xn4 (bbxn:Bool) (vxn:Value) (kxn:Nat) (fxn:Nat→Nat) (vxd:Value) (kxd:Nat) (fxd:Nat→Nat) (bbyn:Bool) (vyn:Value) (kyn:Nat) (fyn:Nat→Nat) (vyd:Value) (kyd:Nat) (fyd:Nat→Nat)  (w:World) (HWxn:Hid (Wa w vxn kxn fxn)) (HFxn:Hid (∀ i,i<kxn→fxn i<4294967296)) (HWxd:Hid (Wa w vxd kxd fxd)) (HFxd:Hid (∀ i,i<kxd→fxd i<4294967296)) (HWyn:Hid (Wa w vyn kyn fyn)) (HFyn:Hid (∀ i,i<kyn→fyn i<4294967296)) (HWyd:Hid (Wa w vyd kyd fyd)) (HFyd:Hid (∀ i,i<kyd→fyd i<4294967296))  (HT:Hid (Tab w)) :
  Calls Tryz.prog 6 #[.agg #[.bool bbxn,vxn,vxd],.agg #[.bool bbyn,vyn,vyd]] w fun e w'=>e=.returned (.bool true)∧Below w.heap.size w w':=by
 obtain ⟨ixn,HAxn⟩:∃ z,Hid ((if bbxn then -((vl fxn kxn:Nat):Int) else ((vl fxn kxn:Nat):Int))=z):=⟨_,lh_ rfl⟩
 obtain ⟨a,HQx⟩:∃ z,Hid (mkRat ixn (vl fxd kxd+1)=z):=⟨_,lh_ rfl⟩
 obtain ⟨iyn,HAyn⟩:∃ z,Hid ((if bbyn then -((vl fyn kyn:Nat):Int) else ((vl fyn kyn:Nat):Int))=z):=⟨_,lh_ rfl⟩
 obtain ⟨b,HQy⟩:∃ z,Hid (mkRat iyn (vl fyd kyd+1)=z):=⟨_,lh_ rfl⟩
 by_cases hkxn:kxn≤4
 ·skip
  by_cases hkxd:kxd≤4
  ·skip
   by_cases hkyn:kyn≤4
   ·skip
    by_cases hkyd:kyd≤4
    ·skip
     have hsa:sz a≤5:=by
      rw [← HQx.out]
      have hm1:wl (vl fxn kxn)≤4:=by have:=qa4.2 (qf7 HFxn.out);omega
      exact qf6 (by rw [qn9 HAxn.out];exact hm1) (by have:=qa4.2 (qf7 HFxd.out);omega)
     have hsb:sz b≤5:=by
      rw [← HQy.out]
      have hm1:wl (vl fyn kyn)≤4:=by have:=qa4.2 (qf7 HFyn.out);omega
      exact qf6 (by rw [qn9 HAyn.out];exact hm1) (by have:=qa4.2 (qf7 HFyd.out);omega)
     by_cases ha:a=0
     ·subst ha
      by_cases hb:exq b*exq b=b
      ·exact xy5 bbxn vxn kxn fxn _ ixn vxd kxd fxd _ bbyn vyn kyn fyn _ iyn vyd kyd fyd _ b _ w HWxn HFxn (lh_ rfl) HAxn HWxd HFxd (lh_ rfl) HQx HWyn HFyn (lh_ rfl) HAyn HWyd HFyd (lh_ rfl) HQy hkxn hkxd hkyn hkyd (lh_ rfl) (lh_ hb) (lh_ (qR0 b)) (ql8 hsb) HT
      ·exact xu7 bbxn vxn kxn fxn _ ixn vxd kxd fxd _ bbyn vyn kyn fyn _ iyn vyd kyd fyd _ b w HWxn HFxn (lh_ rfl) HAxn HWxd HFxd (lh_ rfl) HQx HWyn HFyn (lh_ rfl) HAyn HWyd HFyd (lh_ rfl) HQy hkxn hkxd hkyn hkyd (lh_ hb) HT
     ·have hsr:sz (qabs a)≤5:=by rw [qc8];exact hsa
      have hc:=qg0 (xt6 a 64)
      by_cases hb:exq b*exq b=b
      ·exact xA3 bbxn vxn kxn fxn _ ixn vxd kxd fxd _ bbyn vyn kyn fyn _ iyn vyd kyd fyd _ a b _ _ _ _ _ _ w HWxn HFxn (lh_ rfl) HAxn HWxd HFxd (lh_ rfl) HQx HWyn HFyn (lh_ rfl) HAyn HWyd HFyd (lh_ rfl) HQy hkxn hkxd hkyn hkyd (lh_ rfl) hsr (lh_ rfl) (lh_ rfl) hc (lh_ rfl) (qp1 ha) (lh_ rfl) (lh_ hb) (lh_ (qR0 b)) (ql8 hsb) (lh_ (by rw [← xr8 (qR0 b),hb])) (lh_ (by rw [qT0,hb])) (lh_ rfl) (xz_ (b:=b) (ql8 hsb) hsa) HT
      ·exact xx_ bbxn vxn kxn fxn _ ixn vxd kxd fxd _ bbyn vyn kyn fyn _ iyn vyd kyd fyd _ a b _ _ _ _ w HWxn HFxn (lh_ rfl) HAxn HWxd HFxd (lh_ rfl) HQx HWyn HFyn (lh_ rfl) HAyn HWyd HFyd (lh_ rfl) HQy hkxn hkxd hkyn hkyd (lh_ rfl) hsr (lh_ rfl) (lh_ rfl) hc (lh_ rfl) (qp1 ha) (lh_ hb) (lh_ (xr9 ha hb)) HT
    ·exact xd9 bbxn vxn kxn fxn _ ixn vxd kxd fxd _ bbyn vyn kyn fyn _ iyn vyd kyd fyd _ a b  w HWxn HFxn (lh_ rfl) HAxn HWxd HFxd (lh_ rfl) HQx HWyn HFyn (lh_ rfl) HAyn HWyd HFyd (lh_ rfl) HQy  hkxn hkxd hkyn om HT
   ·exact xf8 bbxn vxn kxn fxn _ ixn vxd kxd fxd _ bbyn vyn kyn fyn _ iyn vyd kyd fyd _ a b  w HWxn HFxn (lh_ rfl) HAxn HWxd HFxd (lh_ rfl) HQx HWyn HFyn (lh_ rfl) HAyn HWyd HFyd (lh_ rfl) HQy  hkxn hkxd om HT
  ·exact xd0 bbxn vxn kxn fxn _ ixn vxd kxd fxd _ bbyn vyn kyn fyn _ iyn vyd kyd fyd _ a b  w HWxn HFxn (lh_ rfl) HAxn HWxd HFxd (lh_ rfl) HQx HWyn HFyn (lh_ rfl) HAyn HWyd HFyd (lh_ rfl) HQy  hkxn om HT
 ·exact qZ9 bbxn vxn kxn fxn _ ixn vxd kxd fxd _ bbyn vyn kyn fyn _ iyn vyd kyd fyd _ a b  w HWxn HFxn (lh_ rfl) HAxn HWxd HFxd (lh_ rfl) HQx HWyn HFyn (lh_ rfl) HAyn HWyd HFyd (lh_ rfl) HQy   om HT
end Go.Proofs.YtaflakcemiilaaaGreatDoor
