
/- RootsRise: the law's walk. -/
import Derived.Test.YtaflakcemiilaaaGreatDoorRRot1
import Derived.Test.YtaflakcemiilaaaGreatDoorPL
import Derived.Test.YtaflakcemiilaaaGreatDoorSgnR
set_option maxRecDepth 100000
set_option maxHeartbeats 16000000
set_option linter.unusedVariables false
set_option linter.unusedSimpArgs false
namespace Go.Proofs.YtaflakcemiilaaaGreatDoor
open Go.RowKit
attribute [local go_sem ↓] Go.wp_at_zero Go.wp_at_succ
attribute [local go_sem ↓] qd6 qa7 qf4 qk3 qe7
attribute [local go_sem] Instr.field asAgg
theorem xn6 (n1 d1 n2 d2 m n:Int) (x0 y0 a b l l2 h h2 l3 h3:Rat) (r t:Nat) (c0 c1 c2 c3 c4 c5:Int) (w:World) (h1_1:-9223372036854775808≤n1) (h2_1:n1≤9223372036854775807) (h3_1:0≤d1) (h4_1:d1≤4294967295) (h1_2:-9223372036854775808≤n2) (h2_2:n2≤9223372036854775807) (h3_2:0≤d2) (h4_2:d2≤4294967295) (hm1:0≤m) (hm2:m≤255) (hn1:0≤n) (hn2:n≤255) (HMr:Hid (Int.tmod m 101=(r:Int))) (HMt:Hid (Int.tmod n 101=(t:Int))) (hpq:r≤t) (hq:t≤100) (HX0:Hid (qv n1 d1=x0)) (HY0:Hid (qv n2 d2=y0)) (HX:Hid (qabs x0=a)) (HY:Hid (qabs y0=b)) (hsa:sz a≤4) (hsb:sz b≤4) (HA0:Hid (0≤a)) (HB0:Hid (0≤b)) (HC0:Hid (sgQ (a - b)=c0)) (hc0:¬ 0<c0) (HL:Hid (rlo a r=l)) (HL2:Hid (rlo a t=l2)) (HH:Hid (rhi a r=h)) (HH2:Hid (rhi a t=h2)) (HL3:Hid (rlo b r=l3)) (HH3:Hid (rhi b r=h3)) (HC1:Hid (sgQ (l - l2)=c1)) (hc1:¬ 0<c1) (HC2:Hid (sgQ (h2 - h)=c2)) (hc2:¬ 0<c2) (HC3:Hid (sgQ (l - l3)=c3)) (hc3:¬ 0<c3) (HC4:Hid (sgQ (h - h3)=c4)) (hc4:¬ 0<c4) (HC5:Hid (sgQ (l2 - h2)=c5)) (hc5:¬ 0<c5) (HT:Hid (Tab w)) :
  Calls Tryz.prog 7 #[(Value.agg #[.int .i64 n1,.int .u32 d1]),(Value.agg #[.int .i64 n2,.int .u32 d2]),.int .u8 m,.int .u8 n] w fun e w'=>e=.returned ((.bool true))∧Below w.heap.size w w':=by
 have hwm:IntKind.i64.wrap m=m:=by rw [IntKind.wrap_i64];omega
 have hwn:IntKind.i64.wrap n=n:=by rw [IntKind.wrap_i64];omega
 go_enter Tryz.func7,Tryz.ntmps7
 have I:=lh_ (hp0 w)
 refine kS fun K O=>?_
 refine wp_region_lit ?_
 go_wp2
 refine kF_ O (((I.out).aL (w.heap.size)).aL (w.heap.size+1)) fun Wx0 J=>?_;clear O K
 clear I;have I:=J;clear J
 generalize w.heap.size+1=gx1 at *
 have hrmr_2:Int.tmod m 101=(r:Int):=HMr.out
 have hrmt_5:Int.tmod n 101=(t:Int):=HMt.out
 refine qj6 fun K O T Y=>?_
 iterate 8 refine tk ?_
 refine nlS Y I fun vw1 J=>?_
 clear Y T I
 go_wp2
 refine kO O ?_;clear O K
 have I:=J;clear J
 clear hrmr_2 hrmt_5
 refine wp_seq ?_
 have hpg:¬ (t:Int)<(r:Int):=by omega
 refine ks3_ fun K O T Y=>?_
 refine tk3_ ?_
 refine nlS Y I fun vw2 J=>?_
 clear Y T I
 go_wp2
 refine kO O ?_;clear O K
 have I:=J;clear J
 clear hpg
 refine wp_cond_false (by rfl) ?_
 refine wp_skip ?_
 show Code.wp _ _ _ _ _
 have HZ1:Hid (qv n1 d1=x0):=lh_ (HX0.out)
 have su1:sz x0≤4:=by have e:=HZ1.out;first|omega|(rw [← e];exact qh0 n1 d1 om om om om)
 have HZ2:Hid (qabs x0=a):=lh_ (HX.out)
 have su2:sz a≤4:=by have e:=HZ2.out;first|omega|(rw [← e];rw [qc8];omega)
 have HZ3:Hid (qv n2 d2=y0):=lh_ (HY0.out)
 have su3:sz y0≤4:=by have e:=HZ3.out;first|omega|(rw [← e];exact qh0 n2 d2 om om om om)
 have HZ4:Hid (qabs y0=b):=lh_ (HY.out)
 have su4:sz b≤4:=by have e:=HZ4.out;first|omega|(rw [← e];rw [qc8];omega)
 have lx0:=c0_ I
 have lx1:=c1_ I
 refine kS fun K O=>?_
 refine qa2 8 [6,7] [] (fun i=>if i=6 then 11 else 12) (fun i=>if i=6 then .cells #[.int .u64 0,.string ⟨#[]⟩,.bool false,.int .u64 0,.string ⟨#[]⟩] 36 else .cells #[.int .u64 0,.string ⟨#[]⟩,.bool false,.int .u64 0,.string ⟨#[]⟩] 36) [(true,0),(true,3),(true,1),(true,2),(true,4),(true,5)] (by kernel_rfl) (by kernel_rfl) (by intro i hi;simp only [List.mem_cons,List.not_mem_nil,or_false] at hi;rcases hi with rfl|rfl <;> exact ⟨_,rfl,rfl,rfl,by simp,fun ρ w=>by kernel_rfl⟩) (fun i hi=>by cases hi) (fun _ _ _ _ _ h=>h) (fun T Y=>?_)
 refine tk2_ ?_
 refine ck Tryz.call24 (fun w' hw=>qf9 n1 d1 x0 _ HZ1.out om om om om) ?_
 refine ck Tryz.call31 (fun w' hw=>qd0 x0 a _ HZ2.out) ?_
 refine ck Tryz.call24 (fun w' hw=>qf9 n2 d2 y0 _ HZ3.out om om om om) ?_
 refine ck Tryz.call31 (fun w' hw=>qd0 y0 b _ HZ4.out) ?_
 refine qa1 (Y.out _ _ ?_)
 intro G vw3 hg hf
 simp only [puts,Act.put,lA,lB,lC,lD,lE,↓reduceIte,Nat.reduceEqDiff]
 have J:=lh_ (I.out.fr hg hf (zs:=[(#[.int .u64 0,.string ⟨#[]⟩,.bool false,.int .u64 0,.string ⟨#[]⟩],36),(#[.int .u64 0,.string ⟨#[]⟩,.bool false,.int .u64 0,.string ⟨#[]⟩],36)]) rfl (by decide) (by decide))
 simp only [zq1_,zq2_,zq3_,zq4_,lF,lG] at J
 clear Y T I hg hf lx0 lx1
 generalize G 6=gx3 at *
 generalize G 7=gx4 at *
 have lx3:=c2_ J;have fx3:=f2_ J
 have lx4:=c3_ J;have fx4:=f3_ J
 have r0:=Gr.refl vw3
 obtain ⟨d3_4,d4_3⟩:=J.out.ne 2 3 rfl rfl (by decide)
 go_wp2
 refine kO O ?_;clear O K
 clear r0 lx3 fx3 lx4 fx4 d3_4 d4_3
 refine fH (((((((((J.out).put2 2 0 rfl).put2 2 2 rfl).put 2 4 _ rfl).put2 3 0 rfl).put2 3 2 rfl).put 3 4 _ rfl).er 1).er 0) fun Wx4 I=>?_
 clear J
 refine wp_seq ?_
 have hcc0:¬ 0<c0:=by omega
 have lx3:=c0_ I
 have lx4:=c1_ I
 refine ks4_ fun K O T Y=>?_
 refine tk2_ ?_
 refine ck Tryz.call38 (fun w' hw=>qa8 a b c0 _ (HC0.out) om om) ?_
 refine tk ?_
 refine nlS Y I fun vw4 J=>?_
 clear Y T I lx3 lx4
 go_wp2
 refine kO O ?_;clear O K
 have I:=J;clear J
 clear hcc0
 refine wp_cond_false (by rfl) ?_
 refine wp_skip ?_
 show Code.wp _ _ _ _ _
 have HZ5:Hid (rlo a r=l):=lh_ (HL.out)
 have su5:sz l≤14:=by have e:=HZ5.out;first|omega|(rw [← e];exact Nat.le_trans (qd2 om om) om)
 have lx3:=c0_ I
 refine ks6_ fun K O T Y=>?_
 refine tk2_ ?_
 refine ck Tryz.call23 (fun w' hw=>qb1 a l r _ (lh_ (by first|exact ok|exact HA0.out|exact HB0.out)) (lh_ HZ5.out) om om) ?_
 refine tk3_ ?_
 refine nlS Y I fun vw5 J=>?_
 clear Y T I lx3
 go_wp2
 refine kF_ O ((J.out).aL (vw5.heap.size)) fun Wx7 I=>?_;clear O K
 clear J
 generalize vw5.heap.size=gx5 at *
 have HZ6:Hid (rlo a t=l2):=lh_ (HL2.out)
 have su6:sz l2≤14:=by have e:=HZ6.out;first|omega|(rw [← e];exact Nat.le_trans (qd2 om om) om)
 have lx3:=c0_ I
 refine ks6_ fun K O T Y=>?_
 refine tk2_ ?_
 refine ck Tryz.call23 (fun w' hw=>qb1 a l2 t _ (lh_ (by first|exact ok|exact HA0.out|exact HB0.out)) (lh_ HZ6.out) om om) ?_
 refine tk3_ ?_
 refine nlS Y I fun vw6 J=>?_
 clear Y T I lx3
 go_wp2
 refine kF_ O ((J.out).aL (vw6.heap.size)) fun Wx8 I=>?_;clear O K
 clear J
 generalize vw6.heap.size=gx6 at *
 have HZ7:Hid (rhi a r=h):=lh_ (HH.out)
 have su7:sz h≤14:=by have e:=HZ7.out;first|omega|(rw [← e];exact Nat.le_trans (qd8 om om) om)
 have lx3:=c0_ I
 refine ks6_ fun K O T Y=>?_
 refine tk2_ ?_
 refine ck Tryz.call25 (fun w' hw=>qb6 a h r _ (lh_ (by first|exact ok|exact HA0.out|exact HB0.out)) (lh_ HZ7.out) om om) ?_
 refine tk3_ ?_
 refine nlS Y I fun vw7 J=>?_
 clear Y T I lx3
 go_wp2
 refine kF_ O ((J.out).aL (vw7.heap.size)) fun Wx9 I=>?_;clear O K
 clear J
 generalize vw7.heap.size=gx7 at *
 have HZ8:Hid (rhi a t=h2):=lh_ (HH2.out)
 have su8:sz h2≤14:=by have e:=HZ8.out;first|omega|(rw [← e];exact Nat.le_trans (qd8 om om) om)
 have lx3:=c0_ I
 refine ks6_ fun K O T Y=>?_
 refine tk2_ ?_
 refine ck Tryz.call25 (fun w' hw=>qb6 a h2 t _ (lh_ (by first|exact ok|exact HA0.out|exact HB0.out)) (lh_ HZ8.out) om om) ?_
 refine tk3_ ?_
 refine nlS Y I fun vw8 J=>?_
 clear Y T I lx3
 go_wp2
 refine kF_ O ((J.out).aL (vw8.heap.size)) fun Wx10 I=>?_;clear O K
 clear J
 generalize vw8.heap.size=gx8 at *
 have HZ9:Hid (rlo b r=l3):=lh_ (HL3.out)
 have su9:sz l3≤14:=by have e:=HZ9.out;first|omega|(rw [← e];exact Nat.le_trans (qd2 om om) om)
 have lx4:=c1_ I
 refine ks6_ fun K O T Y=>?_
 refine tk2_ ?_
 refine ck Tryz.call23 (fun w' hw=>qb1 b l3 r _ (lh_ (by first|exact ok|exact HA0.out|exact HB0.out)) (lh_ HZ9.out) om om) ?_
 refine tk3_ ?_
 refine nlS Y I fun vw9 J=>?_
 clear Y T I lx4
 go_wp2
 refine kF_ O ((J.out).aL (vw9.heap.size)) fun Wx11 I=>?_;clear O K
 clear J
 generalize vw9.heap.size=gx9 at *
 have HZ10:Hid (rhi b r=h3):=lh_ (HH3.out)
 have su10:sz h3≤14:=by have e:=HZ10.out;first|omega|(rw [← e];exact Nat.le_trans (qd8 om om) om)
 have lx4:=c1_ I
 refine ks6_ fun K O T Y=>?_
 refine tk2_ ?_
 refine ck Tryz.call25 (fun w' hw=>qb6 b h3 r _ (lh_ (by first|exact ok|exact HA0.out|exact HB0.out)) (lh_ HZ10.out) om om) ?_
 refine tk3_ ?_
 refine nlS Y I fun vw10 J=>?_
 clear Y T I lx4
 go_wp2
 refine kF_ O (((J.out).aL (vw10.heap.size)).er 1) fun Wx12 I=>?_;clear O K
 clear J
 generalize vw10.heap.size=gx10 at *
 refine wp_seq ?_
 have hcc1:¬ 0<c1:=by omega
 have hcc2:¬ 0<c2:=by omega
 have hcc3:¬ 0<c3:=by omega
 have hcc4:¬ 0<c4:=by omega
 have hcc5:¬ 0<c5:=by omega
 have lx5:=c1_ I
 have lx6:=c2_ I
 have lx7:=c3_ I
 have lx8:=c4_ I
 have lx9:=c5_ I
 have lx10:=c6_ I
 refine xa_ fun K O T Y=>?_
 refine tk2_ ?_
 refine ck Tryz.call38 (fun w' hw=>qa8 l l2 c1 _ (by first|exact HC1.out|(simp only [];exact HC1.out)) om om) ?_
 iterate 4 refine tk ?_
 refine ck Tryz.call38 (fun w' hw=>qa8 h2 h c2 _ (by first|exact HC2.out|(simp only [];exact HC2.out)) om om) ?_
 iterate 5 refine tk ?_
 refine ck Tryz.call38 (fun w' hw=>qa8 l l3 c3 _ (by first|exact HC3.out|(simp only [];exact HC3.out)) om om) ?_
 iterate 5 refine tk ?_
 refine ck Tryz.call38 (fun w' hw=>qa8 h h3 c4 _ (by first|exact HC4.out|(simp only [];exact HC4.out)) om om) ?_
 iterate 5 refine tk ?_
 refine ck Tryz.call38 (fun w' hw=>qa8 l2 h2 c5 _ (by first|exact HC5.out|(simp only [];exact HC5.out)) om om) ?_
 refine tk2_ ?_
 refine nlS Y I fun vw11 J=>?_
 clear Y T I lx5 lx6 lx7 lx8 lx9 lx10
 go_wp2
 refine kF_ O (((((J.out).er 6).er 5).er 3).er 1) fun Wx13 I=>?_;clear O K
 clear J
 clear hcc1 hcc2 hcc3 hcc4 hcc5
 refine wp_cond_false (by rfl) ?_
 refine wp_skip ?_
 show Code.wp _ _ _ _ _
 refine wp_seq ?_
 rcases Nat.eq_zero_or_pos t with hq0|hq0
 ·have HQ0:=lh_ hq0
  clear hq0
  have hqz:((t:Int) == 0)=true:=by have h9:=HQ0.out;simp [h9]
  refine ks2_ fun K O T Y=>?_
  refine tk2_ ?_
  refine nlS Y I fun vw12 J=>?_
  clear Y T I
  go_wp2
  refine kO O ?_;clear O K
  have I:=J;clear J
  clear hqz
  refine wp_cond_true (by rfl) ?_
  have HB:=HPb I
  refine ks2_ fun K O T Y=>?_
  refine ck Tryz.call22 (fun w' hw=>qa6 _ (lh_ (HT.out.gr (Gr.trans HB.out hw)))) ?_
  refine tk ?_
  refine nlS Y I fun vw13 J=>?_
  clear Y T I HB
  go_wp2
  refine kO O ?_;clear O K
  have I:=J;clear J
  refine wp_ret ?_
  try simp only [Exit.then,Exit.inBlock]
  exact bodyPost_ret (v:=.bool true) (by simp [results,Tryz.results7,go_sem]) rfl ⟨rfl,I.out.1⟩
 ·obtain ⟨j,hj⟩:∃ j,t=j+1:=⟨t - 1,by omega⟩
  have HQJ:=lh_ hj
  have hjk:j≤100:=by omega
  have HF1:Hid ((2:Rat)*l2=rlo ((4:Rat)*a) j):=lh_ (by rw [qp5,← hj,HL2.out])
  have HF2:Hid ((2:Rat)*h2=rhi ((4:Rat)*a) j):=lh_ (by rw [qs4,← hj,HH2.out])
  have HA4:Hid (0≤(4:Rat)*a):=lh_ (Rat.mul_nonneg (by decide +kernel) HA0.out)
  clear hj hq0
  have hqz:((t:Int) == 0)=false:=by have h9:¬ ((t:Int)=0):=(by have:=HQJ.out;omega);simpa using h9
  refine ks2_ fun K O T Y=>?_
  refine tk2_ ?_
  refine nlS Y I fun vw12 J=>?_
  clear Y T I
  go_wp2
  refine kO O ?_;clear O K
  have I:=J;clear J
  clear hqz
  refine wp_cond_false (by rfl) ?_
  refine wp_skip ?_
  show Code.wp _ _ _ _ _
  have hwj:IntKind.i64.wrap ((t:Int) - 1)=(j:Int):=by have:=HQJ.out;rw [IntKind.wrap_i64];omega
  have HZ11:Hid (((4:Int):Rat)=(4:Rat)):=lh_ (by decide +kernel)
  have su11:sz ((4:Rat))≤2:=qd5 (qa4.2 (by decide +kernel)) (qa4.2 (by decide +kernel))
  obtain ⟨u12,HZ12⟩:∃ z,Hid ((4:Rat)*(a)=z):=⟨_,lh_ rfl⟩
  have su12:sz u12≤6:=by rw [← HZ12.out];have:=qb0 (4:Rat) a;omega
  obtain ⟨u13,HZ13⟩:∃ z,Hid (rlo u12 j=z):=⟨_,lh_ rfl⟩
  have su13:sz u13≤16:=by rw [← HZ13.out];exact Nat.le_trans (qd2 om om) om
  have lx3:=c0_ I
  refine kS fun K O=>?_
  refine qa2 10 [9] [8] (fun _=>25) (fun _=>.cells #[.int .u64 0,.string ⟨#[]⟩,.bool false,.int .u64 0,.string ⟨#[]⟩] 36) [(true,1),(true,3),(true,4),(true,0),(true,2),(true,5),(true,6),(true,7),(true,8)] (by kernel_rfl) (by kernel_rfl) (by intro i hi;simp only [List.mem_cons,List.not_mem_nil,or_false] at hi;rcases hi with rfl <;> exact ⟨_,rfl,rfl,rfl,by simp,fun ρ w=>by kernel_rfl⟩) (by intro i hi;simp only [List.mem_cons,List.not_mem_nil,or_false] at hi;rcases hi with rfl <;> exact ⟨_,rfl,qb9⟩) (fun _ _ _ _ _ h=>h) (fun T Y=>?_)
  refine tk3_ ?_
  refine ck Tryz.call32 (fun w' hw=>qb5 (4) (4:Rat) _ HZ11.out om om) ?_
  refine ck Tryz.call39 (fun w' hw=>qc7 (4:Rat) a u12 _ HZ12.out om om) ?_
  refine ck Tryz.call23 (fun w' hw=>qb1 u12 u13 j _ (lh_ (by simp only [← HZ13.out,← HZ12.out];exact HA4.out)) (lh_ HZ13.out) om om) ?_
  refine tk3_ ?_
  refine qa1 (Y.out _ _ ?_)
  intro G vw13 hg hf
  simp only [puts,Act.put,lA,lB,lC,lD,lE,↓reduceIte,Nat.reduceEqDiff]
  have J:=lh_ (I.out.fr hg hf (zs:=[(#[.int .u64 0,.string ⟨#[]⟩,.bool false,.int .u64 0,.string ⟨#[]⟩],36)]) rfl (by decide) (by decide))
  simp only [zq1_,zq2_,zq3_,zq4_,lF,lG] at J
  clear Y T I hg hf lx3
  generalize G 9=gx11 at *
  have lx11:=c3_ J;have fx11:=f3_ J
  have r0:=Gr.refl vw13
  go_wp2
  refine kO O ?_;clear O K
  clear r0 lx11 fx11
  refine fH ((((J.out).put2 3 0 rfl).put2 3 2 rfl).put 3 4 _ rfl) fun Wx17 I=>?_
  clear J
  clear hwj
  have hwj:IntKind.i64.wrap ((t:Int) - 1)=(j:Int):=by have:=HQJ.out;rw [IntKind.wrap_i64];omega
  have HZ14:Hid (((4:Int):Rat)=(4:Rat)):=lh_ (by decide +kernel)
  have su14:sz ((4:Rat))≤2:=qd5 (qa4.2 (by decide +kernel)) (qa4.2 (by decide +kernel))
  have HZ15:Hid ((4:Rat)*(a)=u12):=lh_ (by first|exact ok|exact HF1.out|exact HF2.out|exact HA0.out|exact HB0.out|(simp only [← HZ13.out,← HZ12.out] <;> first|exact ok|exact HF1.out|exact HF2.out|exact HA0.out|exact HB0.out))
  have su15:sz u12≤6:=by have e:=HZ15.out;first|omega|(rw [← e];have:=qb0 (4:Rat) a;omega)
  obtain ⟨u16,HZ16⟩:∃ z,Hid (rhi u12 j=z):=⟨_,lh_ rfl⟩
  have su16:sz u16≤16:=by rw [← HZ16.out];exact Nat.le_trans (qd8 om om) om
  have lx3:=c0_ I
  refine kS fun K O=>?_
  refine qa2 10 [9] [8] (fun _=>27) (fun _=>.cells #[.int .u64 0,.string ⟨#[]⟩,.bool false,.int .u64 0,.string ⟨#[]⟩] 36) [(true,1),(true,3),(true,4),(true,0),(true,2),(true,5),(true,6),(true,7),(true,8)] (by kernel_rfl) (by kernel_rfl) (by intro i hi;simp only [List.mem_cons,List.not_mem_nil,or_false] at hi;rcases hi with rfl <;> exact ⟨_,rfl,rfl,rfl,by simp,fun ρ w=>by kernel_rfl⟩) (by intro i hi;simp only [List.mem_cons,List.not_mem_nil,or_false] at hi;rcases hi with rfl <;> exact ⟨_,rfl,qb9⟩) (fun _ _ _ _ _ h=>h) (fun T Y=>?_)
  refine tk3_ ?_
  refine ck Tryz.call32 (fun w' hw=>qb5 (4) (4:Rat) _ HZ14.out om om) ?_
  refine ck Tryz.call39 (fun w' hw=>qc7 (4:Rat) a u12 _ HZ15.out om om) ?_
  refine ck Tryz.call25 (fun w' hw=>qb6 u12 u16 j _ (lh_ (by simp only [← HZ16.out,← HZ13.out,← HZ12.out];exact HA4.out)) (lh_ HZ16.out) om om) ?_
  refine tk3_ ?_
  refine qa1 (Y.out _ _ ?_)
  intro G vw14 hg hf
  simp only [puts,Act.put,lA,lB,lC,lD,lE,↓reduceIte,Nat.reduceEqDiff]
  have J:=lh_ (I.out.fr hg hf (zs:=[(#[.int .u64 0,.string ⟨#[]⟩,.bool false,.int .u64 0,.string ⟨#[]⟩],36)]) rfl (by decide) (by decide))
  simp only [zq1_,zq2_,zq3_,zq4_,lF,lG] at J
  clear Y T I hg hf lx3
  generalize G 9=gx12 at *
  have lx12:=c4_ J;have fx12:=f4_ J
  have r0:=Gr.refl vw14
  go_wp2
  refine kO O ?_;clear O K
  clear r0 lx12 fx12
  refine fH (((((J.out).put2 4 0 rfl).put2 4 2 rfl).put 4 4 _ rfl).er 0) fun Wx18 I=>?_
  clear J
  clear hwj
  have HB:=HPb I
  have HZ17:Hid (((2:Int):Rat)=(2:Rat)):=lh_ (by decide +kernel)
  have su17:sz ((2:Rat))≤2:=qd5 (qa4.2 (by decide +kernel)) (qa4.2 (by decide +kernel))
  have HZ18:Hid ((2:Rat)*(l2)=u13):=lh_ (by first|exact ok|exact HF1.out|exact HF2.out|exact HA0.out|exact HB0.out|(simp only [← HZ16.out,← HZ13.out,← HZ12.out] <;> first|exact ok|exact HF1.out|exact HF2.out|exact HA0.out|exact HB0.out))
  have su18:sz u13≤16:=by have e:=HZ18.out;first|omega|(rw [← e];have:=qb0 (2:Rat) l2;omega)
  have HZ19:Hid (((2:Int):Rat)=(2:Rat)):=lh_ (by decide +kernel)
  have su19:sz ((2:Rat))≤2:=qd5 (qa4.2 (by decide +kernel)) (qa4.2 (by decide +kernel))
  have HZ20:Hid ((2:Rat)*(h2)=u16):=lh_ (by first|exact ok|exact HF1.out|exact HF2.out|exact HA0.out|exact HB0.out|(simp only [← HZ16.out,← HZ13.out,← HZ12.out] <;> first|exact ok|exact HF1.out|exact HF2.out|exact HA0.out|exact HB0.out))
  have su20:sz u16≤16:=by have e:=HZ20.out;first|omega|(rw [← e];have:=qb0 (2:Rat) h2;omega)
  have lx6:=c0_ I
  have lx8:=c1_ I
  have lx11:=c2_ I
  have lx12:=c3_ I
  refine kS fun K O=>?_
  refine xe_ fun T Y=>?_
  iterate 9 refine tk ?_
  refine ck Tryz.call32 (fun w' hw=>qb5 (2) (2:Rat) _ HZ17.out om om) ?_
  refine ck Tryz.call39 (fun w' hw=>qc7 (2:Rat) l2 u13 _ HZ18.out om om) ?_
  iterate 5 refine tk ?_
  refine ck Tryz.call32 (fun w' hw=>qb5 (2) (2:Rat) _ HZ19.out om om) ?_
  refine ck Tryz.call39 (fun w' hw=>qc7 (2:Rat) h2 u16 _ HZ20.out om om) ?_
  refine tk3_ ?_
  refine ck Tryz.call22 (fun w' hw=>qa6 _ (lh_ (HT.out.gr (Gr.trans HB.out hw)))) ?_
  refine tk ?_
  refine nlD Y I fun vw15 J=>?_
  clear Y T I lx6 lx8 lx11 lx12 HB
  go_wp2
  refine kF_ O (((((J.out).er 3).er 2).er 1).er 0) fun Wx19 I=>?_;clear O K
  clear J
  refine wp_ret ?_
  try simp only [Exit.then,Exit.inBlock]
  exact bodyPost_ret (v:=.bool true) (by simp [results,Tryz.results7,go_sem]) rfl ⟨rfl,I.out.1⟩
theorem xp9 (n1 d1 n2 d2 m n:Int) (x0 y0 a b l l2 h h2 l3 h3:Rat) (r t:Nat) (c0 c1 c2 c3 c4 c5:Int) (w:World) (h1_1:-9223372036854775808≤n1) (h2_1:n1≤9223372036854775807) (h3_1:0≤d1) (h4_1:d1≤4294967295) (h1_2:-9223372036854775808≤n2) (h2_2:n2≤9223372036854775807) (h3_2:0≤d2) (h4_2:d2≤4294967295) (hm1:0≤m) (hm2:m≤255) (hn1:0≤n) (hn2:n≤255) (HMr:Hid (Int.tmod m 101=(r:Int))) (HMt:Hid (Int.tmod n 101=(t:Int))) (hpq:t<r) (hq:r≤100) (HX0:Hid (qv n1 d1=x0)) (HY0:Hid (qv n2 d2=y0)) (HX:Hid (qabs x0=a)) (HY:Hid (qabs y0=b)) (hsa:sz a≤4) (hsb:sz b≤4) (HA0:Hid (0≤a)) (HB0:Hid (0≤b)) (HC0:Hid (sgQ (a - b)=c0)) (hc0:¬ 0<c0) (HL:Hid (rlo a t=l)) (HL2:Hid (rlo a r=l2)) (HH:Hid (rhi a t=h)) (HH2:Hid (rhi a r=h2)) (HL3:Hid (rlo b t=l3)) (HH3:Hid (rhi b t=h3)) (HC1:Hid (sgQ (l - l2)=c1)) (hc1:¬ 0<c1) (HC2:Hid (sgQ (h2 - h)=c2)) (hc2:¬ 0<c2) (HC3:Hid (sgQ (l - l3)=c3)) (hc3:¬ 0<c3) (HC4:Hid (sgQ (h - h3)=c4)) (hc4:¬ 0<c4) (HC5:Hid (sgQ (l2 - h2)=c5)) (hc5:¬ 0<c5) (HT:Hid (Tab w)) :
  Calls Tryz.prog 7 #[(Value.agg #[.int .i64 n1,.int .u32 d1]),(Value.agg #[.int .i64 n2,.int .u32 d2]),.int .u8 m,.int .u8 n] w fun e w'=>e=.returned ((.bool true))∧Below w.heap.size w w':=by
 have hwm:IntKind.i64.wrap m=m:=by rw [IntKind.wrap_i64];omega
 have hwn:IntKind.i64.wrap n=n:=by rw [IntKind.wrap_i64];omega
 go_enter Tryz.func7,Tryz.ntmps7
 have I:=lh_ (hp0 w)
 refine kS fun K O=>?_
 refine wp_region_lit ?_
 go_wp2
 refine kF_ O (((I.out).aL (w.heap.size)).aL (w.heap.size+1)) fun Wx0 J=>?_;clear O K
 clear I;have I:=J;clear J
 generalize w.heap.size+1=gx1 at *
 have hrmr_2:Int.tmod m 101=(r:Int):=HMr.out
 have hrmt_5:Int.tmod n 101=(t:Int):=HMt.out
 refine qj6 fun K O T Y=>?_
 iterate 8 refine tk ?_
 refine nlS Y I fun vw1 J=>?_
 clear Y T I
 go_wp2
 refine kO O ?_;clear O K
 have I:=J;clear J
 clear hrmr_2 hrmt_5
 refine wp_seq ?_
 have hpg:(t:Int)<(r:Int):=by omega
 refine ks3_ fun K O T Y=>?_
 refine tk3_ ?_
 refine nlS Y I fun vw2 J=>?_
 clear Y T I
 go_wp2
 refine kO O ?_;clear O K
 have I:=J;clear J
 clear hpg
 refine wp_cond_true (by rfl) ?_
 refine kL fun K O=>?_
 refine sq4_ fun T Y=>?_
 iterate 4 refine tk ?_
 refine nlS Y I fun vw3 J=>?_
 clear Y T I
 go_wp2
 refine kO O ?_;clear O K
 have I:=J;clear J
 have HZ1:Hid (qv n1 d1=x0):=lh_ (HX0.out)
 have su1:sz x0≤4:=by have e:=HZ1.out;first|omega|(rw [← e];exact qh0 n1 d1 om om om om)
 have HZ2:Hid (qabs x0=a):=lh_ (HX.out)
 have su2:sz a≤4:=by have e:=HZ2.out;first|omega|(rw [← e];rw [qc8];omega)
 have HZ3:Hid (qv n2 d2=y0):=lh_ (HY0.out)
 have su3:sz y0≤4:=by have e:=HZ3.out;first|omega|(rw [← e];exact qh0 n2 d2 om om om om)
 have HZ4:Hid (qabs y0=b):=lh_ (HY.out)
 have su4:sz b≤4:=by have e:=HZ4.out;first|omega|(rw [← e];rw [qc8];omega)
 have lx0:=c0_ I
 have lx1:=c1_ I
 refine kS fun K O=>?_
 refine qa2 8 [6,7] [] (fun i=>if i=6 then 11 else 12) (fun i=>if i=6 then .cells #[.int .u64 0,.string ⟨#[]⟩,.bool false,.int .u64 0,.string ⟨#[]⟩] 36 else .cells #[.int .u64 0,.string ⟨#[]⟩,.bool false,.int .u64 0,.string ⟨#[]⟩] 36) [(true,0),(true,3),(true,1),(true,2),(true,4),(true,5)] (by kernel_rfl) (by kernel_rfl) (by intro i hi;simp only [List.mem_cons,List.not_mem_nil,or_false] at hi;rcases hi with rfl|rfl <;> exact ⟨_,rfl,rfl,rfl,by simp,fun ρ w=>by kernel_rfl⟩) (fun i hi=>by cases hi) (fun _ _ _ _ _ h=>h) (fun T Y=>?_)
 refine tk2_ ?_
 refine ck Tryz.call24 (fun w' hw=>qf9 n1 d1 x0 _ HZ1.out om om om om) ?_
 refine ck Tryz.call31 (fun w' hw=>qd0 x0 a _ HZ2.out) ?_
 refine ck Tryz.call24 (fun w' hw=>qf9 n2 d2 y0 _ HZ3.out om om om om) ?_
 refine ck Tryz.call31 (fun w' hw=>qd0 y0 b _ HZ4.out) ?_
 refine qa1 (Y.out _ _ ?_)
 intro G vw4 hg hf
 simp only [puts,Act.put,lA,lB,lC,lD,lE,↓reduceIte,Nat.reduceEqDiff]
 have J:=lh_ (I.out.fr hg hf (zs:=[(#[.int .u64 0,.string ⟨#[]⟩,.bool false,.int .u64 0,.string ⟨#[]⟩],36),(#[.int .u64 0,.string ⟨#[]⟩,.bool false,.int .u64 0,.string ⟨#[]⟩],36)]) rfl (by decide) (by decide))
 simp only [zq1_,zq2_,zq3_,zq4_,lF,lG] at J
 clear Y T I hg hf lx0 lx1
 generalize G 6=gx3 at *
 generalize G 7=gx4 at *
 have lx3:=c2_ J;have fx3:=f2_ J
 have lx4:=c3_ J;have fx4:=f3_ J
 have r0:=Gr.refl vw4
 obtain ⟨d3_4,d4_3⟩:=J.out.ne 2 3 rfl rfl (by decide)
 go_wp2
 refine kO O ?_;clear O K
 clear r0 lx3 fx3 lx4 fx4 d3_4 d4_3
 refine fH (((((((((J.out).put2 2 0 rfl).put2 2 2 rfl).put 2 4 _ rfl).put2 3 0 rfl).put2 3 2 rfl).put 3 4 _ rfl).er 1).er 0) fun Wx4 I=>?_
 clear J
 refine wp_seq ?_
 have hcc0:¬ 0<c0:=by omega
 have lx3:=c0_ I
 have lx4:=c1_ I
 refine ks4_ fun K O T Y=>?_
 refine tk2_ ?_
 refine ck Tryz.call38 (fun w' hw=>qa8 a b c0 _ (HC0.out) om om) ?_
 refine tk ?_
 refine nlS Y I fun vw5 J=>?_
 clear Y T I lx3 lx4
 go_wp2
 refine kO O ?_;clear O K
 have I:=J;clear J
 clear hcc0
 refine wp_cond_false (by rfl) ?_
 refine wp_skip ?_
 show Code.wp _ _ _ _ _
 have HZ5:Hid (rlo a t=l):=lh_ (HL.out)
 have su5:sz l≤14:=by have e:=HZ5.out;first|omega|(rw [← e];exact Nat.le_trans (qd2 om om) om)
 have lx3:=c0_ I
 refine ks6_ fun K O T Y=>?_
 refine tk2_ ?_
 refine ck Tryz.call23 (fun w' hw=>qb1 a l t _ (lh_ (by first|exact ok|exact HA0.out|exact HB0.out)) (lh_ HZ5.out) om om) ?_
 refine tk3_ ?_
 refine nlS Y I fun vw6 J=>?_
 clear Y T I lx3
 go_wp2
 refine kF_ O ((J.out).aL (vw6.heap.size)) fun Wx7 I=>?_;clear O K
 clear J
 generalize vw6.heap.size=gx5 at *
 have HZ6:Hid (rlo a r=l2):=lh_ (HL2.out)
 have su6:sz l2≤14:=by have e:=HZ6.out;first|omega|(rw [← e];exact Nat.le_trans (qd2 om om) om)
 have lx3:=c0_ I
 refine ks6_ fun K O T Y=>?_
 refine tk2_ ?_
 refine ck Tryz.call23 (fun w' hw=>qb1 a l2 r _ (lh_ (by first|exact ok|exact HA0.out|exact HB0.out)) (lh_ HZ6.out) om om) ?_
 refine tk3_ ?_
 refine nlS Y I fun vw7 J=>?_
 clear Y T I lx3
 go_wp2
 refine kF_ O ((J.out).aL (vw7.heap.size)) fun Wx8 I=>?_;clear O K
 clear J
 generalize vw7.heap.size=gx6 at *
 have HZ7:Hid (rhi a t=h):=lh_ (HH.out)
 have su7:sz h≤14:=by have e:=HZ7.out;first|omega|(rw [← e];exact Nat.le_trans (qd8 om om) om)
 have lx3:=c0_ I
 refine ks6_ fun K O T Y=>?_
 refine tk2_ ?_
 refine ck Tryz.call25 (fun w' hw=>qb6 a h t _ (lh_ (by first|exact ok|exact HA0.out|exact HB0.out)) (lh_ HZ7.out) om om) ?_
 refine tk3_ ?_
 refine nlS Y I fun vw8 J=>?_
 clear Y T I lx3
 go_wp2
 refine kF_ O ((J.out).aL (vw8.heap.size)) fun Wx9 I=>?_;clear O K
 clear J
 generalize vw8.heap.size=gx7 at *
 have HZ8:Hid (rhi a r=h2):=lh_ (HH2.out)
 have su8:sz h2≤14:=by have e:=HZ8.out;first|omega|(rw [← e];exact Nat.le_trans (qd8 om om) om)
 have lx3:=c0_ I
 refine ks6_ fun K O T Y=>?_
 refine tk2_ ?_
 refine ck Tryz.call25 (fun w' hw=>qb6 a h2 r _ (lh_ (by first|exact ok|exact HA0.out|exact HB0.out)) (lh_ HZ8.out) om om) ?_
 refine tk3_ ?_
 refine nlS Y I fun vw9 J=>?_
 clear Y T I lx3
 go_wp2
 refine kF_ O ((J.out).aL (vw9.heap.size)) fun Wx10 I=>?_;clear O K
 clear J
 generalize vw9.heap.size=gx8 at *
 have HZ9:Hid (rlo b t=l3):=lh_ (HL3.out)
 have su9:sz l3≤14:=by have e:=HZ9.out;first|omega|(rw [← e];exact Nat.le_trans (qd2 om om) om)
 have lx4:=c1_ I
 refine ks6_ fun K O T Y=>?_
 refine tk2_ ?_
 refine ck Tryz.call23 (fun w' hw=>qb1 b l3 t _ (lh_ (by first|exact ok|exact HA0.out|exact HB0.out)) (lh_ HZ9.out) om om) ?_
 refine tk3_ ?_
 refine nlS Y I fun vw10 J=>?_
 clear Y T I lx4
 go_wp2
 refine kF_ O ((J.out).aL (vw10.heap.size)) fun Wx11 I=>?_;clear O K
 clear J
 generalize vw10.heap.size=gx9 at *
 have HZ10:Hid (rhi b t=h3):=lh_ (HH3.out)
 have su10:sz h3≤14:=by have e:=HZ10.out;first|omega|(rw [← e];exact Nat.le_trans (qd8 om om) om)
 have lx4:=c1_ I
 refine ks6_ fun K O T Y=>?_
 refine tk2_ ?_
 refine ck Tryz.call25 (fun w' hw=>qb6 b h3 t _ (lh_ (by first|exact ok|exact HA0.out|exact HB0.out)) (lh_ HZ10.out) om om) ?_
 refine tk3_ ?_
 refine nlS Y I fun vw11 J=>?_
 clear Y T I lx4
 go_wp2
 refine kF_ O (((J.out).aL (vw11.heap.size)).er 1) fun Wx12 I=>?_;clear O K
 clear J
 generalize vw11.heap.size=gx10 at *
 refine wp_seq ?_
 have hcc1:¬ 0<c1:=by omega
 have hcc2:¬ 0<c2:=by omega
 have hcc3:¬ 0<c3:=by omega
 have hcc4:¬ 0<c4:=by omega
 have hcc5:¬ 0<c5:=by omega
 have lx5:=c1_ I
 have lx6:=c2_ I
 have lx7:=c3_ I
 have lx8:=c4_ I
 have lx9:=c5_ I
 have lx10:=c6_ I
 refine xa_ fun K O T Y=>?_
 refine tk2_ ?_
 refine ck Tryz.call38 (fun w' hw=>qa8 l l2 c1 _ (by first|exact HC1.out|(simp only [];exact HC1.out)) om om) ?_
 iterate 4 refine tk ?_
 refine ck Tryz.call38 (fun w' hw=>qa8 h2 h c2 _ (by first|exact HC2.out|(simp only [];exact HC2.out)) om om) ?_
 iterate 5 refine tk ?_
 refine ck Tryz.call38 (fun w' hw=>qa8 l l3 c3 _ (by first|exact HC3.out|(simp only [];exact HC3.out)) om om) ?_
 iterate 5 refine tk ?_
 refine ck Tryz.call38 (fun w' hw=>qa8 h h3 c4 _ (by first|exact HC4.out|(simp only [];exact HC4.out)) om om) ?_
 iterate 5 refine tk ?_
 refine ck Tryz.call38 (fun w' hw=>qa8 l2 h2 c5 _ (by first|exact HC5.out|(simp only [];exact HC5.out)) om om) ?_
 refine tk2_ ?_
 refine nlS Y I fun vw12 J=>?_
 clear Y T I lx5 lx6 lx7 lx8 lx9 lx10
 go_wp2
 refine kF_ O (((((J.out).er 6).er 5).er 3).er 1) fun Wx13 I=>?_;clear O K
 clear J
 clear hcc1 hcc2 hcc3 hcc4 hcc5
 refine wp_cond_false (by rfl) ?_
 refine wp_skip ?_
 show Code.wp _ _ _ _ _
 refine wp_seq ?_
 rcases Nat.eq_zero_or_pos r with hq0|hq0
 ·have HQ0:=lh_ hq0
  clear hq0
  have hqz:((r:Int) == 0)=true:=by have h9:=HQ0.out;simp [h9]
  refine ks2_ fun K O T Y=>?_
  refine tk2_ ?_
  refine nlS Y I fun vw13 J=>?_
  clear Y T I
  go_wp2
  refine kO O ?_;clear O K
  have I:=J;clear J
  clear hqz
  refine wp_cond_true (by rfl) ?_
  have HB:=HPb I
  refine ks2_ fun K O T Y=>?_
  refine ck Tryz.call22 (fun w' hw=>qa6 _ (lh_ (HT.out.gr (Gr.trans HB.out hw)))) ?_
  refine tk ?_
  refine nlS Y I fun vw14 J=>?_
  clear Y T I HB
  go_wp2
  refine kO O ?_;clear O K
  have I:=J;clear J
  refine wp_ret ?_
  try simp only [Exit.then,Exit.inBlock]
  exact bodyPost_ret (v:=.bool true) (by simp [results,Tryz.results7,go_sem]) rfl ⟨rfl,I.out.1⟩
 ·obtain ⟨j,hj⟩:∃ j,r=j+1:=⟨r - 1,by omega⟩
  have HQJ:=lh_ hj
  have hjk:j≤100:=by omega
  have HF1:Hid ((2:Rat)*l2=rlo ((4:Rat)*a) j):=lh_ (by rw [qp5,← hj,HL2.out])
  have HF2:Hid ((2:Rat)*h2=rhi ((4:Rat)*a) j):=lh_ (by rw [qs4,← hj,HH2.out])
  have HA4:Hid (0≤(4:Rat)*a):=lh_ (Rat.mul_nonneg (by decide +kernel) HA0.out)
  clear hj hq0
  have hqz:((r:Int) == 0)=false:=by have h9:¬ ((r:Int)=0):=(by have:=HQJ.out;omega);simpa using h9
  refine ks2_ fun K O T Y=>?_
  refine tk2_ ?_
  refine nlS Y I fun vw13 J=>?_
  clear Y T I
  go_wp2
  refine kO O ?_;clear O K
  have I:=J;clear J
  clear hqz
  refine wp_cond_false (by rfl) ?_
  refine wp_skip ?_
  show Code.wp _ _ _ _ _
  have hwj:IntKind.i64.wrap ((r:Int) - 1)=(j:Int):=by have:=HQJ.out;rw [IntKind.wrap_i64];omega
  have HZ11:Hid (((4:Int):Rat)=(4:Rat)):=lh_ (by decide +kernel)
  have su11:sz ((4:Rat))≤2:=qd5 (qa4.2 (by decide +kernel)) (qa4.2 (by decide +kernel))
  obtain ⟨u12,HZ12⟩:∃ z,Hid ((4:Rat)*(a)=z):=⟨_,lh_ rfl⟩
  have su12:sz u12≤6:=by rw [← HZ12.out];have:=qb0 (4:Rat) a;omega
  obtain ⟨u13,HZ13⟩:∃ z,Hid (rlo u12 j=z):=⟨_,lh_ rfl⟩
  have su13:sz u13≤16:=by rw [← HZ13.out];exact Nat.le_trans (qd2 om om) om
  have lx3:=c0_ I
  refine kS fun K O=>?_
  refine qa2 10 [9] [8] (fun _=>25) (fun _=>.cells #[.int .u64 0,.string ⟨#[]⟩,.bool false,.int .u64 0,.string ⟨#[]⟩] 36) [(true,1),(true,3),(true,4),(true,0),(true,2),(true,5),(true,6),(true,7),(true,8)] (by kernel_rfl) (by kernel_rfl) (by intro i hi;simp only [List.mem_cons,List.not_mem_nil,or_false] at hi;rcases hi with rfl <;> exact ⟨_,rfl,rfl,rfl,by simp,fun ρ w=>by kernel_rfl⟩) (by intro i hi;simp only [List.mem_cons,List.not_mem_nil,or_false] at hi;rcases hi with rfl <;> exact ⟨_,rfl,qb9⟩) (fun _ _ _ _ _ h=>h) (fun T Y=>?_)
  refine tk3_ ?_
  refine ck Tryz.call32 (fun w' hw=>qb5 (4) (4:Rat) _ HZ11.out om om) ?_
  refine ck Tryz.call39 (fun w' hw=>qc7 (4:Rat) a u12 _ HZ12.out om om) ?_
  refine ck Tryz.call23 (fun w' hw=>qb1 u12 u13 j _ (lh_ (by simp only [← HZ13.out,← HZ12.out];exact HA4.out)) (lh_ HZ13.out) om om) ?_
  refine tk3_ ?_
  refine qa1 (Y.out _ _ ?_)
  intro G vw14 hg hf
  simp only [puts,Act.put,lA,lB,lC,lD,lE,↓reduceIte,Nat.reduceEqDiff]
  have J:=lh_ (I.out.fr hg hf (zs:=[(#[.int .u64 0,.string ⟨#[]⟩,.bool false,.int .u64 0,.string ⟨#[]⟩],36)]) rfl (by decide) (by decide))
  simp only [zq1_,zq2_,zq3_,zq4_,lF,lG] at J
  clear Y T I hg hf lx3
  generalize G 9=gx11 at *
  have lx11:=c3_ J;have fx11:=f3_ J
  have r0:=Gr.refl vw14
  go_wp2
  refine kO O ?_;clear O K
  clear r0 lx11 fx11
  refine fH ((((J.out).put2 3 0 rfl).put2 3 2 rfl).put 3 4 _ rfl) fun Wx17 I=>?_
  clear J
  clear hwj
  have hwj:IntKind.i64.wrap ((r:Int) - 1)=(j:Int):=by have:=HQJ.out;rw [IntKind.wrap_i64];omega
  have HZ14:Hid (((4:Int):Rat)=(4:Rat)):=lh_ (by decide +kernel)
  have su14:sz ((4:Rat))≤2:=qd5 (qa4.2 (by decide +kernel)) (qa4.2 (by decide +kernel))
  have HZ15:Hid ((4:Rat)*(a)=u12):=lh_ (by first|exact ok|exact HF1.out|exact HF2.out|exact HA0.out|exact HB0.out|(simp only [← HZ13.out,← HZ12.out] <;> first|exact ok|exact HF1.out|exact HF2.out|exact HA0.out|exact HB0.out))
  have su15:sz u12≤6:=by have e:=HZ15.out;first|omega|(rw [← e];have:=qb0 (4:Rat) a;omega)
  obtain ⟨u16,HZ16⟩:∃ z,Hid (rhi u12 j=z):=⟨_,lh_ rfl⟩
  have su16:sz u16≤16:=by rw [← HZ16.out];exact Nat.le_trans (qd8 om om) om
  have lx3:=c0_ I
  refine kS fun K O=>?_
  refine qa2 10 [9] [8] (fun _=>27) (fun _=>.cells #[.int .u64 0,.string ⟨#[]⟩,.bool false,.int .u64 0,.string ⟨#[]⟩] 36) [(true,1),(true,3),(true,4),(true,0),(true,2),(true,5),(true,6),(true,7),(true,8)] (by kernel_rfl) (by kernel_rfl) (by intro i hi;simp only [List.mem_cons,List.not_mem_nil,or_false] at hi;rcases hi with rfl <;> exact ⟨_,rfl,rfl,rfl,by simp,fun ρ w=>by kernel_rfl⟩) (by intro i hi;simp only [List.mem_cons,List.not_mem_nil,or_false] at hi;rcases hi with rfl <;> exact ⟨_,rfl,qb9⟩) (fun _ _ _ _ _ h=>h) (fun T Y=>?_)
  refine tk3_ ?_
  refine ck Tryz.call32 (fun w' hw=>qb5 (4) (4:Rat) _ HZ14.out om om) ?_
  refine ck Tryz.call39 (fun w' hw=>qc7 (4:Rat) a u12 _ HZ15.out om om) ?_
  refine ck Tryz.call25 (fun w' hw=>qb6 u12 u16 j _ (lh_ (by simp only [← HZ16.out,← HZ13.out,← HZ12.out];exact HA4.out)) (lh_ HZ16.out) om om) ?_
  refine tk3_ ?_
  refine qa1 (Y.out _ _ ?_)
  intro G vw15 hg hf
  simp only [puts,Act.put,lA,lB,lC,lD,lE,↓reduceIte,Nat.reduceEqDiff]
  have J:=lh_ (I.out.fr hg hf (zs:=[(#[.int .u64 0,.string ⟨#[]⟩,.bool false,.int .u64 0,.string ⟨#[]⟩],36)]) rfl (by decide) (by decide))
  simp only [zq1_,zq2_,zq3_,zq4_,lF,lG] at J
  clear Y T I hg hf lx3
  generalize G 9=gx12 at *
  have lx12:=c4_ J;have fx12:=f4_ J
  have r0:=Gr.refl vw15
  go_wp2
  refine kO O ?_;clear O K
  clear r0 lx12 fx12
  refine fH (((((J.out).put2 4 0 rfl).put2 4 2 rfl).put 4 4 _ rfl).er 0) fun Wx18 I=>?_
  clear J
  clear hwj
  have HB:=HPb I
  have HZ17:Hid (((2:Int):Rat)=(2:Rat)):=lh_ (by decide +kernel)
  have su17:sz ((2:Rat))≤2:=qd5 (qa4.2 (by decide +kernel)) (qa4.2 (by decide +kernel))
  have HZ18:Hid ((2:Rat)*(l2)=u13):=lh_ (by first|exact ok|exact HF1.out|exact HF2.out|exact HA0.out|exact HB0.out|(simp only [← HZ16.out,← HZ13.out,← HZ12.out] <;> first|exact ok|exact HF1.out|exact HF2.out|exact HA0.out|exact HB0.out))
  have su18:sz u13≤16:=by have e:=HZ18.out;first|omega|(rw [← e];have:=qb0 (2:Rat) l2;omega)
  have HZ19:Hid (((2:Int):Rat)=(2:Rat)):=lh_ (by decide +kernel)
  have su19:sz ((2:Rat))≤2:=qd5 (qa4.2 (by decide +kernel)) (qa4.2 (by decide +kernel))
  have HZ20:Hid ((2:Rat)*(h2)=u16):=lh_ (by first|exact ok|exact HF1.out|exact HF2.out|exact HA0.out|exact HB0.out|(simp only [← HZ16.out,← HZ13.out,← HZ12.out] <;> first|exact ok|exact HF1.out|exact HF2.out|exact HA0.out|exact HB0.out))
  have su20:sz u16≤16:=by have e:=HZ20.out;first|omega|(rw [← e];have:=qb0 (2:Rat) h2;omega)
  have lx6:=c0_ I
  have lx8:=c1_ I
  have lx11:=c2_ I
  have lx12:=c3_ I
  refine kS fun K O=>?_
  refine xe_ fun T Y=>?_
  iterate 9 refine tk ?_
  refine ck Tryz.call32 (fun w' hw=>qb5 (2) (2:Rat) _ HZ17.out om om) ?_
  refine ck Tryz.call39 (fun w' hw=>qc7 (2:Rat) l2 u13 _ HZ18.out om om) ?_
  iterate 5 refine tk ?_
  refine ck Tryz.call32 (fun w' hw=>qb5 (2) (2:Rat) _ HZ19.out om om) ?_
  refine ck Tryz.call39 (fun w' hw=>qc7 (2:Rat) h2 u16 _ HZ20.out om om) ?_
  refine tk3_ ?_
  refine ck Tryz.call22 (fun w' hw=>qa6 _ (lh_ (HT.out.gr (Gr.trans HB.out hw)))) ?_
  refine tk ?_
  refine nlD Y I fun vw16 J=>?_
  clear Y T I lx6 lx8 lx11 lx12 HB
  go_wp2
  refine kF_ O (((((J.out).er 3).er 2).er 1).er 0) fun Wx19 I=>?_;clear O K
  clear J
  refine wp_ret ?_
  try simp only [Exit.then,Exit.inBlock]
  exact bodyPost_ret (v:=.bool true) (by simp [results,Tryz.results7,go_sem]) rfl ⟨rfl,I.out.1⟩
theorem xl6 (n1 d1 n2 d2 m n:Int) (x0 y0 a b l l2 h h2 l3 h3:Rat) (r t:Nat) (c0 c1 c2 c3 c4 c5:Int) (w:World) (h1_1:-9223372036854775808≤n1) (h2_1:n1≤9223372036854775807) (h3_1:0≤d1) (h4_1:d1≤4294967295) (h1_2:-9223372036854775808≤n2) (h2_2:n2≤9223372036854775807) (h3_2:0≤d2) (h4_2:d2≤4294967295) (hm1:0≤m) (hm2:m≤255) (hn1:0≤n) (hn2:n≤255) (HMr:Hid (Int.tmod m 101=(r:Int))) (HMt:Hid (Int.tmod n 101=(t:Int))) (hpq:r≤t) (hq:t≤100) (HX0:Hid (qv n1 d1=x0)) (HY0:Hid (qv n2 d2=y0)) (HX:Hid (qabs x0=b)) (HY:Hid (qabs y0=a)) (hsa:sz a≤4) (hsb:sz b≤4) (HA0:Hid (0≤a)) (HB0:Hid (0≤b)) (HC0:Hid (sgQ (b - a)=c0)) (hc0:0<c0) (HL:Hid (rlo a r=l)) (HL2:Hid (rlo a t=l2)) (HH:Hid (rhi a r=h)) (HH2:Hid (rhi a t=h2)) (HL3:Hid (rlo b r=l3)) (HH3:Hid (rhi b r=h3)) (HC1:Hid (sgQ (l - l2)=c1)) (hc1:¬ 0<c1) (HC2:Hid (sgQ (h2 - h)=c2)) (hc2:¬ 0<c2) (HC3:Hid (sgQ (l - l3)=c3)) (hc3:¬ 0<c3) (HC4:Hid (sgQ (h - h3)=c4)) (hc4:¬ 0<c4) (HC5:Hid (sgQ (l2 - h2)=c5)) (hc5:¬ 0<c5) (HT:Hid (Tab w)) :
  Calls Tryz.prog 7 #[(Value.agg #[.int .i64 n1,.int .u32 d1]),(Value.agg #[.int .i64 n2,.int .u32 d2]),.int .u8 m,.int .u8 n] w fun e w'=>e=.returned ((.bool true))∧Below w.heap.size w w':=by
 have hwm:IntKind.i64.wrap m=m:=by rw [IntKind.wrap_i64];omega
 have hwn:IntKind.i64.wrap n=n:=by rw [IntKind.wrap_i64];omega
 go_enter Tryz.func7,Tryz.ntmps7
 have I:=lh_ (hp0 w)
 refine kS fun K O=>?_
 refine wp_region_lit ?_
 go_wp2
 refine kF_ O (((I.out).aL (w.heap.size)).aL (w.heap.size+1)) fun Wx0 J=>?_;clear O K
 clear I;have I:=J;clear J
 generalize w.heap.size+1=gx1 at *
 have hrmr_2:Int.tmod m 101=(r:Int):=HMr.out
 have hrmt_5:Int.tmod n 101=(t:Int):=HMt.out
 refine qj6 fun K O T Y=>?_
 iterate 8 refine tk ?_
 refine nlS Y I fun vw1 J=>?_
 clear Y T I
 go_wp2
 refine kO O ?_;clear O K
 have I:=J;clear J
 clear hrmr_2 hrmt_5
 refine wp_seq ?_
 have hpg:¬ (t:Int)<(r:Int):=by omega
 refine ks3_ fun K O T Y=>?_
 refine tk3_ ?_
 refine nlS Y I fun vw2 J=>?_
 clear Y T I
 go_wp2
 refine kO O ?_;clear O K
 have I:=J;clear J
 clear hpg
 refine wp_cond_false (by rfl) ?_
 refine wp_skip ?_
 show Code.wp _ _ _ _ _
 have HZ1:Hid (qv n1 d1=x0):=lh_ (HX0.out)
 have su1:sz x0≤4:=by have e:=HZ1.out;first|omega|(rw [← e];exact qh0 n1 d1 om om om om)
 have HZ2:Hid (qabs x0=b):=lh_ (HX.out)
 have su2:sz b≤4:=by have e:=HZ2.out;first|omega|(rw [← e];rw [qc8];omega)
 have HZ3:Hid (qv n2 d2=y0):=lh_ (HY0.out)
 have su3:sz y0≤4:=by have e:=HZ3.out;first|omega|(rw [← e];exact qh0 n2 d2 om om om om)
 have HZ4:Hid (qabs y0=a):=lh_ (HY.out)
 have su4:sz a≤4:=by have e:=HZ4.out;first|omega|(rw [← e];rw [qc8];omega)
 have lx0:=c0_ I
 have lx1:=c1_ I
 refine kS fun K O=>?_
 refine qa2 8 [6,7] [] (fun i=>if i=6 then 11 else 12) (fun i=>if i=6 then .cells #[.int .u64 0,.string ⟨#[]⟩,.bool false,.int .u64 0,.string ⟨#[]⟩] 36 else .cells #[.int .u64 0,.string ⟨#[]⟩,.bool false,.int .u64 0,.string ⟨#[]⟩] 36) [(true,0),(true,3),(true,1),(true,2),(true,4),(true,5)] (by kernel_rfl) (by kernel_rfl) (by intro i hi;simp only [List.mem_cons,List.not_mem_nil,or_false] at hi;rcases hi with rfl|rfl <;> exact ⟨_,rfl,rfl,rfl,by simp,fun ρ w=>by kernel_rfl⟩) (fun i hi=>by cases hi) (fun _ _ _ _ _ h=>h) (fun T Y=>?_)
 refine tk2_ ?_
 refine ck Tryz.call24 (fun w' hw=>qf9 n1 d1 x0 _ HZ1.out om om om om) ?_
 refine ck Tryz.call31 (fun w' hw=>qd0 x0 b _ HZ2.out) ?_
 refine ck Tryz.call24 (fun w' hw=>qf9 n2 d2 y0 _ HZ3.out om om om om) ?_
 refine ck Tryz.call31 (fun w' hw=>qd0 y0 a _ HZ4.out) ?_
 refine qa1 (Y.out _ _ ?_)
 intro G vw3 hg hf
 simp only [puts,Act.put,lA,lB,lC,lD,lE,↓reduceIte,Nat.reduceEqDiff]
 have J:=lh_ (I.out.fr hg hf (zs:=[(#[.int .u64 0,.string ⟨#[]⟩,.bool false,.int .u64 0,.string ⟨#[]⟩],36),(#[.int .u64 0,.string ⟨#[]⟩,.bool false,.int .u64 0,.string ⟨#[]⟩],36)]) rfl (by decide) (by decide))
 simp only [zq1_,zq2_,zq3_,zq4_,lF,lG] at J
 clear Y T I hg hf lx0 lx1
 generalize G 6=gx3 at *
 generalize G 7=gx4 at *
 have lx3:=c2_ J;have fx3:=f2_ J
 have lx4:=c3_ J;have fx4:=f3_ J
 have r0:=Gr.refl vw3
 obtain ⟨d3_4,d4_3⟩:=J.out.ne 2 3 rfl rfl (by decide)
 go_wp2
 refine kO O ?_;clear O K
 clear r0 lx3 fx3 lx4 fx4 d3_4 d4_3
 refine fH (((((((((J.out).put2 2 0 rfl).put2 2 2 rfl).put 2 4 _ rfl).put2 3 0 rfl).put2 3 2 rfl).put 3 4 _ rfl).er 1).er 0) fun Wx4 I=>?_
 clear J
 refine wp_seq ?_
 have hcc0:0<c0:=by omega
 have lx3:=c0_ I
 have lx4:=c1_ I
 refine ks4_ fun K O T Y=>?_
 refine tk2_ ?_
 refine ck Tryz.call38 (fun w' hw=>qa8 b a c0 _ (HC0.out) om om) ?_
 refine tk ?_
 refine nlS Y I fun vw4 J=>?_
 clear Y T I lx3 lx4
 go_wp2
 refine kO O ?_;clear O K
 have I:=J;clear J
 clear hcc0
 refine wp_cond_true (by rfl) ?_
 have lx3:=c0_ I
 have lx4:=c1_ I
 refine kL fun K O=>?_
 refine sq2_ fun T Y=>?_
 refine tk2_ ?_
 refine nlS Y I fun vw5 J=>?_
 clear Y T I lx3 lx4
 have lx3:=c0_ J;have fx3:=f0_ J
 have lx4:=c1_ J;have fx4:=f1_ J
 have r0:=Gr.refl vw5
 obtain ⟨d3_4,d4_3⟩:=J.out.ne 0 1 rfl rfl (by decide)
 go_wp2
 refine kO O ?_;clear O K
 clear r0 lx3 fx3 lx4 fx4 d3_4 d4_3
 refine fH (((((((J.out).put2 0 0 rfl).put2 0 2 rfl).put 0 4 _ rfl).put2 1 0 rfl).put2 1 2 rfl).put 1 4 _ rfl) fun Wx6 I=>?_
 clear J
 have HZ5:Hid (rlo a r=l):=lh_ (HL.out)
 have su5:sz l≤14:=by have e:=HZ5.out;first|omega|(rw [← e];exact Nat.le_trans (qd2 om om) om)
 have lx3:=c0_ I
 refine ks6_ fun K O T Y=>?_
 refine tk2_ ?_
 refine ck Tryz.call23 (fun w' hw=>qb1 a l r _ (lh_ (by first|exact ok|exact HA0.out|exact HB0.out)) (lh_ HZ5.out) om om) ?_
 refine tk3_ ?_
 refine nlS Y I fun vw6 J=>?_
 clear Y T I lx3
 go_wp2
 refine kF_ O ((J.out).aL (vw6.heap.size)) fun Wx7 I=>?_;clear O K
 clear J
 generalize vw6.heap.size=gx5 at *
 have HZ6:Hid (rlo a t=l2):=lh_ (HL2.out)
 have su6:sz l2≤14:=by have e:=HZ6.out;first|omega|(rw [← e];exact Nat.le_trans (qd2 om om) om)
 have lx3:=c0_ I
 refine ks6_ fun K O T Y=>?_
 refine tk2_ ?_
 refine ck Tryz.call23 (fun w' hw=>qb1 a l2 t _ (lh_ (by first|exact ok|exact HA0.out|exact HB0.out)) (lh_ HZ6.out) om om) ?_
 refine tk3_ ?_
 refine nlS Y I fun vw7 J=>?_
 clear Y T I lx3
 go_wp2
 refine kF_ O ((J.out).aL (vw7.heap.size)) fun Wx8 I=>?_;clear O K
 clear J
 generalize vw7.heap.size=gx6 at *
 have HZ7:Hid (rhi a r=h):=lh_ (HH.out)
 have su7:sz h≤14:=by have e:=HZ7.out;first|omega|(rw [← e];exact Nat.le_trans (qd8 om om) om)
 have lx3:=c0_ I
 refine ks6_ fun K O T Y=>?_
 refine tk2_ ?_
 refine ck Tryz.call25 (fun w' hw=>qb6 a h r _ (lh_ (by first|exact ok|exact HA0.out|exact HB0.out)) (lh_ HZ7.out) om om) ?_
 refine tk3_ ?_
 refine nlS Y I fun vw8 J=>?_
 clear Y T I lx3
 go_wp2
 refine kF_ O ((J.out).aL (vw8.heap.size)) fun Wx9 I=>?_;clear O K
 clear J
 generalize vw8.heap.size=gx7 at *
 have HZ8:Hid (rhi a t=h2):=lh_ (HH2.out)
 have su8:sz h2≤14:=by have e:=HZ8.out;first|omega|(rw [← e];exact Nat.le_trans (qd8 om om) om)
 have lx3:=c0_ I
 refine ks6_ fun K O T Y=>?_
 refine tk2_ ?_
 refine ck Tryz.call25 (fun w' hw=>qb6 a h2 t _ (lh_ (by first|exact ok|exact HA0.out|exact HB0.out)) (lh_ HZ8.out) om om) ?_
 refine tk3_ ?_
 refine nlS Y I fun vw9 J=>?_
 clear Y T I lx3
 go_wp2
 refine kF_ O ((J.out).aL (vw9.heap.size)) fun Wx10 I=>?_;clear O K
 clear J
 generalize vw9.heap.size=gx8 at *
 have HZ9:Hid (rlo b r=l3):=lh_ (HL3.out)
 have su9:sz l3≤14:=by have e:=HZ9.out;first|omega|(rw [← e];exact Nat.le_trans (qd2 om om) om)
 have lx4:=c1_ I
 refine ks6_ fun K O T Y=>?_
 refine tk2_ ?_
 refine ck Tryz.call23 (fun w' hw=>qb1 b l3 r _ (lh_ (by first|exact ok|exact HA0.out|exact HB0.out)) (lh_ HZ9.out) om om) ?_
 refine tk3_ ?_
 refine nlS Y I fun vw10 J=>?_
 clear Y T I lx4
 go_wp2
 refine kF_ O ((J.out).aL (vw10.heap.size)) fun Wx11 I=>?_;clear O K
 clear J
 generalize vw10.heap.size=gx9 at *
 have HZ10:Hid (rhi b r=h3):=lh_ (HH3.out)
 have su10:sz h3≤14:=by have e:=HZ10.out;first|omega|(rw [← e];exact Nat.le_trans (qd8 om om) om)
 have lx4:=c1_ I
 refine ks6_ fun K O T Y=>?_
 refine tk2_ ?_
 refine ck Tryz.call25 (fun w' hw=>qb6 b h3 r _ (lh_ (by first|exact ok|exact HA0.out|exact HB0.out)) (lh_ HZ10.out) om om) ?_
 refine tk3_ ?_
 refine nlS Y I fun vw11 J=>?_
 clear Y T I lx4
 go_wp2
 refine kF_ O (((J.out).aL (vw11.heap.size)).er 1) fun Wx12 I=>?_;clear O K
 clear J
 generalize vw11.heap.size=gx10 at *
 refine wp_seq ?_
 have hcc1:¬ 0<c1:=by omega
 have hcc2:¬ 0<c2:=by omega
 have hcc3:¬ 0<c3:=by omega
 have hcc4:¬ 0<c4:=by omega
 have hcc5:¬ 0<c5:=by omega
 have lx5:=c1_ I
 have lx6:=c2_ I
 have lx7:=c3_ I
 have lx8:=c4_ I
 have lx9:=c5_ I
 have lx10:=c6_ I
 refine xa_ fun K O T Y=>?_
 refine tk2_ ?_
 refine ck Tryz.call38 (fun w' hw=>qa8 l l2 c1 _ (by first|exact HC1.out|(simp only [];exact HC1.out)) om om) ?_
 iterate 4 refine tk ?_
 refine ck Tryz.call38 (fun w' hw=>qa8 h2 h c2 _ (by first|exact HC2.out|(simp only [];exact HC2.out)) om om) ?_
 iterate 5 refine tk ?_
 refine ck Tryz.call38 (fun w' hw=>qa8 l l3 c3 _ (by first|exact HC3.out|(simp only [];exact HC3.out)) om om) ?_
 iterate 5 refine tk ?_
 refine ck Tryz.call38 (fun w' hw=>qa8 h h3 c4 _ (by first|exact HC4.out|(simp only [];exact HC4.out)) om om) ?_
 iterate 5 refine tk ?_
 refine ck Tryz.call38 (fun w' hw=>qa8 l2 h2 c5 _ (by first|exact HC5.out|(simp only [];exact HC5.out)) om om) ?_
 refine tk2_ ?_
 refine nlS Y I fun vw12 J=>?_
 clear Y T I lx5 lx6 lx7 lx8 lx9 lx10
 go_wp2
 refine kF_ O (((((J.out).er 6).er 5).er 3).er 1) fun Wx13 I=>?_;clear O K
 clear J
 clear hcc1 hcc2 hcc3 hcc4 hcc5
 refine wp_cond_false (by rfl) ?_
 refine wp_skip ?_
 show Code.wp _ _ _ _ _
 refine wp_seq ?_
 rcases Nat.eq_zero_or_pos t with hq0|hq0
 ·have HQ0:=lh_ hq0
  clear hq0
  have hqz:((t:Int) == 0)=true:=by have h9:=HQ0.out;simp [h9]
  refine ks2_ fun K O T Y=>?_
  refine tk2_ ?_
  refine nlS Y I fun vw13 J=>?_
  clear Y T I
  go_wp2
  refine kO O ?_;clear O K
  have I:=J;clear J
  clear hqz
  refine wp_cond_true (by rfl) ?_
  have HB:=HPb I
  refine ks2_ fun K O T Y=>?_
  refine ck Tryz.call22 (fun w' hw=>qa6 _ (lh_ (HT.out.gr (Gr.trans HB.out hw)))) ?_
  refine tk ?_
  refine nlS Y I fun vw14 J=>?_
  clear Y T I HB
  go_wp2
  refine kO O ?_;clear O K
  have I:=J;clear J
  refine wp_ret ?_
  try simp only [Exit.then,Exit.inBlock]
  exact bodyPost_ret (v:=.bool true) (by simp [results,Tryz.results7,go_sem]) rfl ⟨rfl,I.out.1⟩
 ·obtain ⟨j,hj⟩:∃ j,t=j+1:=⟨t - 1,by omega⟩
  have HQJ:=lh_ hj
  have hjk:j≤100:=by omega
  have HF1:Hid ((2:Rat)*l2=rlo ((4:Rat)*a) j):=lh_ (by rw [qp5,← hj,HL2.out])
  have HF2:Hid ((2:Rat)*h2=rhi ((4:Rat)*a) j):=lh_ (by rw [qs4,← hj,HH2.out])
  have HA4:Hid (0≤(4:Rat)*a):=lh_ (Rat.mul_nonneg (by decide +kernel) HA0.out)
  clear hj hq0
  have hqz:((t:Int) == 0)=false:=by have h9:¬ ((t:Int)=0):=(by have:=HQJ.out;omega);simpa using h9
  refine ks2_ fun K O T Y=>?_
  refine tk2_ ?_
  refine nlS Y I fun vw13 J=>?_
  clear Y T I
  go_wp2
  refine kO O ?_;clear O K
  have I:=J;clear J
  clear hqz
  refine wp_cond_false (by rfl) ?_
  refine wp_skip ?_
  show Code.wp _ _ _ _ _
  have hwj:IntKind.i64.wrap ((t:Int) - 1)=(j:Int):=by have:=HQJ.out;rw [IntKind.wrap_i64];omega
  have HZ11:Hid (((4:Int):Rat)=(4:Rat)):=lh_ (by decide +kernel)
  have su11:sz ((4:Rat))≤2:=qd5 (qa4.2 (by decide +kernel)) (qa4.2 (by decide +kernel))
  obtain ⟨u12,HZ12⟩:∃ z,Hid ((4:Rat)*(a)=z):=⟨_,lh_ rfl⟩
  have su12:sz u12≤6:=by rw [← HZ12.out];have:=qb0 (4:Rat) a;omega
  obtain ⟨u13,HZ13⟩:∃ z,Hid (rlo u12 j=z):=⟨_,lh_ rfl⟩
  have su13:sz u13≤16:=by rw [← HZ13.out];exact Nat.le_trans (qd2 om om) om
  have lx3:=c0_ I
  refine kS fun K O=>?_
  refine qa2 10 [9] [8] (fun _=>25) (fun _=>.cells #[.int .u64 0,.string ⟨#[]⟩,.bool false,.int .u64 0,.string ⟨#[]⟩] 36) [(true,1),(true,3),(true,4),(true,0),(true,2),(true,5),(true,6),(true,7),(true,8)] (by kernel_rfl) (by kernel_rfl) (by intro i hi;simp only [List.mem_cons,List.not_mem_nil,or_false] at hi;rcases hi with rfl <;> exact ⟨_,rfl,rfl,rfl,by simp,fun ρ w=>by kernel_rfl⟩) (by intro i hi;simp only [List.mem_cons,List.not_mem_nil,or_false] at hi;rcases hi with rfl <;> exact ⟨_,rfl,qb9⟩) (fun _ _ _ _ _ h=>h) (fun T Y=>?_)
  refine tk3_ ?_
  refine ck Tryz.call32 (fun w' hw=>qb5 (4) (4:Rat) _ HZ11.out om om) ?_
  refine ck Tryz.call39 (fun w' hw=>qc7 (4:Rat) a u12 _ HZ12.out om om) ?_
  refine ck Tryz.call23 (fun w' hw=>qb1 u12 u13 j _ (lh_ (by simp only [← HZ13.out,← HZ12.out];exact HA4.out)) (lh_ HZ13.out) om om) ?_
  refine tk3_ ?_
  refine qa1 (Y.out _ _ ?_)
  intro G vw14 hg hf
  simp only [puts,Act.put,lA,lB,lC,lD,lE,↓reduceIte,Nat.reduceEqDiff]
  have J:=lh_ (I.out.fr hg hf (zs:=[(#[.int .u64 0,.string ⟨#[]⟩,.bool false,.int .u64 0,.string ⟨#[]⟩],36)]) rfl (by decide) (by decide))
  simp only [zq1_,zq2_,zq3_,zq4_,lF,lG] at J
  clear Y T I hg hf lx3
  generalize G 9=gx11 at *
  have lx11:=c3_ J;have fx11:=f3_ J
  have r0:=Gr.refl vw14
  go_wp2
  refine kO O ?_;clear O K
  clear r0 lx11 fx11
  refine fH ((((J.out).put2 3 0 rfl).put2 3 2 rfl).put 3 4 _ rfl) fun Wx17 I=>?_
  clear J
  clear hwj
  have hwj:IntKind.i64.wrap ((t:Int) - 1)=(j:Int):=by have:=HQJ.out;rw [IntKind.wrap_i64];omega
  have HZ14:Hid (((4:Int):Rat)=(4:Rat)):=lh_ (by decide +kernel)
  have su14:sz ((4:Rat))≤2:=qd5 (qa4.2 (by decide +kernel)) (qa4.2 (by decide +kernel))
  have HZ15:Hid ((4:Rat)*(a)=u12):=lh_ (by first|exact ok|exact HF1.out|exact HF2.out|exact HA0.out|exact HB0.out|(simp only [← HZ13.out,← HZ12.out] <;> first|exact ok|exact HF1.out|exact HF2.out|exact HA0.out|exact HB0.out))
  have su15:sz u12≤6:=by have e:=HZ15.out;first|omega|(rw [← e];have:=qb0 (4:Rat) a;omega)
  obtain ⟨u16,HZ16⟩:∃ z,Hid (rhi u12 j=z):=⟨_,lh_ rfl⟩
  have su16:sz u16≤16:=by rw [← HZ16.out];exact Nat.le_trans (qd8 om om) om
  have lx3:=c0_ I
  refine kS fun K O=>?_
  refine qa2 10 [9] [8] (fun _=>27) (fun _=>.cells #[.int .u64 0,.string ⟨#[]⟩,.bool false,.int .u64 0,.string ⟨#[]⟩] 36) [(true,1),(true,3),(true,4),(true,0),(true,2),(true,5),(true,6),(true,7),(true,8)] (by kernel_rfl) (by kernel_rfl) (by intro i hi;simp only [List.mem_cons,List.not_mem_nil,or_false] at hi;rcases hi with rfl <;> exact ⟨_,rfl,rfl,rfl,by simp,fun ρ w=>by kernel_rfl⟩) (by intro i hi;simp only [List.mem_cons,List.not_mem_nil,or_false] at hi;rcases hi with rfl <;> exact ⟨_,rfl,qb9⟩) (fun _ _ _ _ _ h=>h) (fun T Y=>?_)
  refine tk3_ ?_
  refine ck Tryz.call32 (fun w' hw=>qb5 (4) (4:Rat) _ HZ14.out om om) ?_
  refine ck Tryz.call39 (fun w' hw=>qc7 (4:Rat) a u12 _ HZ15.out om om) ?_
  refine ck Tryz.call25 (fun w' hw=>qb6 u12 u16 j _ (lh_ (by simp only [← HZ16.out,← HZ13.out,← HZ12.out];exact HA4.out)) (lh_ HZ16.out) om om) ?_
  refine tk3_ ?_
  refine qa1 (Y.out _ _ ?_)
  intro G vw15 hg hf
  simp only [puts,Act.put,lA,lB,lC,lD,lE,↓reduceIte,Nat.reduceEqDiff]
  have J:=lh_ (I.out.fr hg hf (zs:=[(#[.int .u64 0,.string ⟨#[]⟩,.bool false,.int .u64 0,.string ⟨#[]⟩],36)]) rfl (by decide) (by decide))
  simp only [zq1_,zq2_,zq3_,zq4_,lF,lG] at J
  clear Y T I hg hf lx3
  generalize G 9=gx12 at *
  have lx12:=c4_ J;have fx12:=f4_ J
  have r0:=Gr.refl vw15
  go_wp2
  refine kO O ?_;clear O K
  clear r0 lx12 fx12
  refine fH (((((J.out).put2 4 0 rfl).put2 4 2 rfl).put 4 4 _ rfl).er 0) fun Wx18 I=>?_
  clear J
  clear hwj
  have HB:=HPb I
  have HZ17:Hid (((2:Int):Rat)=(2:Rat)):=lh_ (by decide +kernel)
  have su17:sz ((2:Rat))≤2:=qd5 (qa4.2 (by decide +kernel)) (qa4.2 (by decide +kernel))
  have HZ18:Hid ((2:Rat)*(l2)=u13):=lh_ (by first|exact ok|exact HF1.out|exact HF2.out|exact HA0.out|exact HB0.out|(simp only [← HZ16.out,← HZ13.out,← HZ12.out] <;> first|exact ok|exact HF1.out|exact HF2.out|exact HA0.out|exact HB0.out))
  have su18:sz u13≤16:=by have e:=HZ18.out;first|omega|(rw [← e];have:=qb0 (2:Rat) l2;omega)
  have HZ19:Hid (((2:Int):Rat)=(2:Rat)):=lh_ (by decide +kernel)
  have su19:sz ((2:Rat))≤2:=qd5 (qa4.2 (by decide +kernel)) (qa4.2 (by decide +kernel))
  have HZ20:Hid ((2:Rat)*(h2)=u16):=lh_ (by first|exact ok|exact HF1.out|exact HF2.out|exact HA0.out|exact HB0.out|(simp only [← HZ16.out,← HZ13.out,← HZ12.out] <;> first|exact ok|exact HF1.out|exact HF2.out|exact HA0.out|exact HB0.out))
  have su20:sz u16≤16:=by have e:=HZ20.out;first|omega|(rw [← e];have:=qb0 (2:Rat) h2;omega)
  have lx6:=c0_ I
  have lx8:=c1_ I
  have lx11:=c2_ I
  have lx12:=c3_ I
  refine kS fun K O=>?_
  refine xe_ fun T Y=>?_
  iterate 9 refine tk ?_
  refine ck Tryz.call32 (fun w' hw=>qb5 (2) (2:Rat) _ HZ17.out om om) ?_
  refine ck Tryz.call39 (fun w' hw=>qc7 (2:Rat) l2 u13 _ HZ18.out om om) ?_
  iterate 5 refine tk ?_
  refine ck Tryz.call32 (fun w' hw=>qb5 (2) (2:Rat) _ HZ19.out om om) ?_
  refine ck Tryz.call39 (fun w' hw=>qc7 (2:Rat) h2 u16 _ HZ20.out om om) ?_
  refine tk3_ ?_
  refine ck Tryz.call22 (fun w' hw=>qa6 _ (lh_ (HT.out.gr (Gr.trans HB.out hw)))) ?_
  refine tk ?_
  refine nlD Y I fun vw16 J=>?_
  clear Y T I lx6 lx8 lx11 lx12 HB
  go_wp2
  refine kF_ O (((((J.out).er 3).er 2).er 1).er 0) fun Wx19 I=>?_;clear O K
  clear J
  refine wp_ret ?_
  try simp only [Exit.then,Exit.inBlock]
  exact bodyPost_ret (v:=.bool true) (by simp [results,Tryz.results7,go_sem]) rfl ⟨rfl,I.out.1⟩
theorem xt1 (n1 d1 n2 d2 m n:Int) (x0 y0 a b l l2 h h2 l3 h3:Rat) (r t:Nat) (c0 c1 c2 c3 c4 c5:Int) (w:World) (h1_1:-9223372036854775808≤n1) (h2_1:n1≤9223372036854775807) (h3_1:0≤d1) (h4_1:d1≤4294967295) (h1_2:-9223372036854775808≤n2) (h2_2:n2≤9223372036854775807) (h3_2:0≤d2) (h4_2:d2≤4294967295) (hm1:0≤m) (hm2:m≤255) (hn1:0≤n) (hn2:n≤255) (HMr:Hid (Int.tmod m 101=(r:Int))) (HMt:Hid (Int.tmod n 101=(t:Int))) (hpq:t<r) (hq:r≤100) (HX0:Hid (qv n1 d1=x0)) (HY0:Hid (qv n2 d2=y0)) (HX:Hid (qabs x0=b)) (HY:Hid (qabs y0=a)) (hsa:sz a≤4) (hsb:sz b≤4) (HA0:Hid (0≤a)) (HB0:Hid (0≤b)) (HC0:Hid (sgQ (b - a)=c0)) (hc0:0<c0) (HL:Hid (rlo a t=l)) (HL2:Hid (rlo a r=l2)) (HH:Hid (rhi a t=h)) (HH2:Hid (rhi a r=h2)) (HL3:Hid (rlo b t=l3)) (HH3:Hid (rhi b t=h3)) (HC1:Hid (sgQ (l - l2)=c1)) (hc1:¬ 0<c1) (HC2:Hid (sgQ (h2 - h)=c2)) (hc2:¬ 0<c2) (HC3:Hid (sgQ (l - l3)=c3)) (hc3:¬ 0<c3) (HC4:Hid (sgQ (h - h3)=c4)) (hc4:¬ 0<c4) (HC5:Hid (sgQ (l2 - h2)=c5)) (hc5:¬ 0<c5) (HT:Hid (Tab w)) :
  Calls Tryz.prog 7 #[(Value.agg #[.int .i64 n1,.int .u32 d1]),(Value.agg #[.int .i64 n2,.int .u32 d2]),.int .u8 m,.int .u8 n] w fun e w'=>e=.returned ((.bool true))∧Below w.heap.size w w':=by
 have hwm:IntKind.i64.wrap m=m:=by rw [IntKind.wrap_i64];omega
 have hwn:IntKind.i64.wrap n=n:=by rw [IntKind.wrap_i64];omega
 go_enter Tryz.func7,Tryz.ntmps7
 have I:=lh_ (hp0 w)
 refine kS fun K O=>?_
 refine wp_region_lit ?_
 go_wp2
 refine kF_ O (((I.out).aL (w.heap.size)).aL (w.heap.size+1)) fun Wx0 J=>?_;clear O K
 clear I;have I:=J;clear J
 generalize w.heap.size+1=gx1 at *
 have hrmr_2:Int.tmod m 101=(r:Int):=HMr.out
 have hrmt_5:Int.tmod n 101=(t:Int):=HMt.out
 refine qj6 fun K O T Y=>?_
 iterate 8 refine tk ?_
 refine nlS Y I fun vw1 J=>?_
 clear Y T I
 go_wp2
 refine kO O ?_;clear O K
 have I:=J;clear J
 clear hrmr_2 hrmt_5
 refine wp_seq ?_
 have hpg:(t:Int)<(r:Int):=by omega
 refine ks3_ fun K O T Y=>?_
 refine tk3_ ?_
 refine nlS Y I fun vw2 J=>?_
 clear Y T I
 go_wp2
 refine kO O ?_;clear O K
 have I:=J;clear J
 clear hpg
 refine wp_cond_true (by rfl) ?_
 refine kL fun K O=>?_
 refine sq4_ fun T Y=>?_
 iterate 4 refine tk ?_
 refine nlS Y I fun vw3 J=>?_
 clear Y T I
 go_wp2
 refine kO O ?_;clear O K
 have I:=J;clear J
 have HZ1:Hid (qv n1 d1=x0):=lh_ (HX0.out)
 have su1:sz x0≤4:=by have e:=HZ1.out;first|omega|(rw [← e];exact qh0 n1 d1 om om om om)
 have HZ2:Hid (qabs x0=b):=lh_ (HX.out)
 have su2:sz b≤4:=by have e:=HZ2.out;first|omega|(rw [← e];rw [qc8];omega)
 have HZ3:Hid (qv n2 d2=y0):=lh_ (HY0.out)
 have su3:sz y0≤4:=by have e:=HZ3.out;first|omega|(rw [← e];exact qh0 n2 d2 om om om om)
 have HZ4:Hid (qabs y0=a):=lh_ (HY.out)
 have su4:sz a≤4:=by have e:=HZ4.out;first|omega|(rw [← e];rw [qc8];omega)
 have lx0:=c0_ I
 have lx1:=c1_ I
 refine kS fun K O=>?_
 refine qa2 8 [6,7] [] (fun i=>if i=6 then 11 else 12) (fun i=>if i=6 then .cells #[.int .u64 0,.string ⟨#[]⟩,.bool false,.int .u64 0,.string ⟨#[]⟩] 36 else .cells #[.int .u64 0,.string ⟨#[]⟩,.bool false,.int .u64 0,.string ⟨#[]⟩] 36) [(true,0),(true,3),(true,1),(true,2),(true,4),(true,5)] (by kernel_rfl) (by kernel_rfl) (by intro i hi;simp only [List.mem_cons,List.not_mem_nil,or_false] at hi;rcases hi with rfl|rfl <;> exact ⟨_,rfl,rfl,rfl,by simp,fun ρ w=>by kernel_rfl⟩) (fun i hi=>by cases hi) (fun _ _ _ _ _ h=>h) (fun T Y=>?_)
 refine tk2_ ?_
 refine ck Tryz.call24 (fun w' hw=>qf9 n1 d1 x0 _ HZ1.out om om om om) ?_
 refine ck Tryz.call31 (fun w' hw=>qd0 x0 b _ HZ2.out) ?_
 refine ck Tryz.call24 (fun w' hw=>qf9 n2 d2 y0 _ HZ3.out om om om om) ?_
 refine ck Tryz.call31 (fun w' hw=>qd0 y0 a _ HZ4.out) ?_
 refine qa1 (Y.out _ _ ?_)
 intro G vw4 hg hf
 simp only [puts,Act.put,lA,lB,lC,lD,lE,↓reduceIte,Nat.reduceEqDiff]
 have J:=lh_ (I.out.fr hg hf (zs:=[(#[.int .u64 0,.string ⟨#[]⟩,.bool false,.int .u64 0,.string ⟨#[]⟩],36),(#[.int .u64 0,.string ⟨#[]⟩,.bool false,.int .u64 0,.string ⟨#[]⟩],36)]) rfl (by decide) (by decide))
 simp only [zq1_,zq2_,zq3_,zq4_,lF,lG] at J
 clear Y T I hg hf lx0 lx1
 generalize G 6=gx3 at *
 generalize G 7=gx4 at *
 have lx3:=c2_ J;have fx3:=f2_ J
 have lx4:=c3_ J;have fx4:=f3_ J
 have r0:=Gr.refl vw4
 obtain ⟨d3_4,d4_3⟩:=J.out.ne 2 3 rfl rfl (by decide)
 go_wp2
 refine kO O ?_;clear O K
 clear r0 lx3 fx3 lx4 fx4 d3_4 d4_3
 refine fH (((((((((J.out).put2 2 0 rfl).put2 2 2 rfl).put 2 4 _ rfl).put2 3 0 rfl).put2 3 2 rfl).put 3 4 _ rfl).er 1).er 0) fun Wx4 I=>?_
 clear J
 refine wp_seq ?_
 have hcc0:0<c0:=by omega
 have lx3:=c0_ I
 have lx4:=c1_ I
 refine ks4_ fun K O T Y=>?_
 refine tk2_ ?_
 refine ck Tryz.call38 (fun w' hw=>qa8 b a c0 _ (HC0.out) om om) ?_
 refine tk ?_
 refine nlS Y I fun vw5 J=>?_
 clear Y T I lx3 lx4
 go_wp2
 refine kO O ?_;clear O K
 have I:=J;clear J
 clear hcc0
 refine wp_cond_true (by rfl) ?_
 have lx3:=c0_ I
 have lx4:=c1_ I
 refine kL fun K O=>?_
 refine sq2_ fun T Y=>?_
 refine tk2_ ?_
 refine nlS Y I fun vw6 J=>?_
 clear Y T I lx3 lx4
 have lx3:=c0_ J;have fx3:=f0_ J
 have lx4:=c1_ J;have fx4:=f1_ J
 have r0:=Gr.refl vw6
 obtain ⟨d3_4,d4_3⟩:=J.out.ne 0 1 rfl rfl (by decide)
 go_wp2
 refine kO O ?_;clear O K
 clear r0 lx3 fx3 lx4 fx4 d3_4 d4_3
 refine fH (((((((J.out).put2 0 0 rfl).put2 0 2 rfl).put 0 4 _ rfl).put2 1 0 rfl).put2 1 2 rfl).put 1 4 _ rfl) fun Wx6 I=>?_
 clear J
 have HZ5:Hid (rlo a t=l):=lh_ (HL.out)
 have su5:sz l≤14:=by have e:=HZ5.out;first|omega|(rw [← e];exact Nat.le_trans (qd2 om om) om)
 have lx3:=c0_ I
 refine ks6_ fun K O T Y=>?_
 refine tk2_ ?_
 refine ck Tryz.call23 (fun w' hw=>qb1 a l t _ (lh_ (by first|exact ok|exact HA0.out|exact HB0.out)) (lh_ HZ5.out) om om) ?_
 refine tk3_ ?_
 refine nlS Y I fun vw7 J=>?_
 clear Y T I lx3
 go_wp2
 refine kF_ O ((J.out).aL (vw7.heap.size)) fun Wx7 I=>?_;clear O K
 clear J
 generalize vw7.heap.size=gx5 at *
 have HZ6:Hid (rlo a r=l2):=lh_ (HL2.out)
 have su6:sz l2≤14:=by have e:=HZ6.out;first|omega|(rw [← e];exact Nat.le_trans (qd2 om om) om)
 have lx3:=c0_ I
 refine ks6_ fun K O T Y=>?_
 refine tk2_ ?_
 refine ck Tryz.call23 (fun w' hw=>qb1 a l2 r _ (lh_ (by first|exact ok|exact HA0.out|exact HB0.out)) (lh_ HZ6.out) om om) ?_
 refine tk3_ ?_
 refine nlS Y I fun vw8 J=>?_
 clear Y T I lx3
 go_wp2
 refine kF_ O ((J.out).aL (vw8.heap.size)) fun Wx8 I=>?_;clear O K
 clear J
 generalize vw8.heap.size=gx6 at *
 have HZ7:Hid (rhi a t=h):=lh_ (HH.out)
 have su7:sz h≤14:=by have e:=HZ7.out;first|omega|(rw [← e];exact Nat.le_trans (qd8 om om) om)
 have lx3:=c0_ I
 refine ks6_ fun K O T Y=>?_
 refine tk2_ ?_
 refine ck Tryz.call25 (fun w' hw=>qb6 a h t _ (lh_ (by first|exact ok|exact HA0.out|exact HB0.out)) (lh_ HZ7.out) om om) ?_
 refine tk3_ ?_
 refine nlS Y I fun vw9 J=>?_
 clear Y T I lx3
 go_wp2
 refine kF_ O ((J.out).aL (vw9.heap.size)) fun Wx9 I=>?_;clear O K
 clear J
 generalize vw9.heap.size=gx7 at *
 have HZ8:Hid (rhi a r=h2):=lh_ (HH2.out)
 have su8:sz h2≤14:=by have e:=HZ8.out;first|omega|(rw [← e];exact Nat.le_trans (qd8 om om) om)
 have lx3:=c0_ I
 refine ks6_ fun K O T Y=>?_
 refine tk2_ ?_
 refine ck Tryz.call25 (fun w' hw=>qb6 a h2 r _ (lh_ (by first|exact ok|exact HA0.out|exact HB0.out)) (lh_ HZ8.out) om om) ?_
 refine tk3_ ?_
 refine nlS Y I fun vw10 J=>?_
 clear Y T I lx3
 go_wp2
 refine kF_ O ((J.out).aL (vw10.heap.size)) fun Wx10 I=>?_;clear O K
 clear J
 generalize vw10.heap.size=gx8 at *
 have HZ9:Hid (rlo b t=l3):=lh_ (HL3.out)
 have su9:sz l3≤14:=by have e:=HZ9.out;first|omega|(rw [← e];exact Nat.le_trans (qd2 om om) om)
 have lx4:=c1_ I
 refine ks6_ fun K O T Y=>?_
 refine tk2_ ?_
 refine ck Tryz.call23 (fun w' hw=>qb1 b l3 t _ (lh_ (by first|exact ok|exact HA0.out|exact HB0.out)) (lh_ HZ9.out) om om) ?_
 refine tk3_ ?_
 refine nlS Y I fun vw11 J=>?_
 clear Y T I lx4
 go_wp2
 refine kF_ O ((J.out).aL (vw11.heap.size)) fun Wx11 I=>?_;clear O K
 clear J
 generalize vw11.heap.size=gx9 at *
 have HZ10:Hid (rhi b t=h3):=lh_ (HH3.out)
 have su10:sz h3≤14:=by have e:=HZ10.out;first|omega|(rw [← e];exact Nat.le_trans (qd8 om om) om)
 have lx4:=c1_ I
 refine ks6_ fun K O T Y=>?_
 refine tk2_ ?_
 refine ck Tryz.call25 (fun w' hw=>qb6 b h3 t _ (lh_ (by first|exact ok|exact HA0.out|exact HB0.out)) (lh_ HZ10.out) om om) ?_
 refine tk3_ ?_
 refine nlS Y I fun vw12 J=>?_
 clear Y T I lx4
 go_wp2
 refine kF_ O (((J.out).aL (vw12.heap.size)).er 1) fun Wx12 I=>?_;clear O K
 clear J
 generalize vw12.heap.size=gx10 at *
 refine wp_seq ?_
 have hcc1:¬ 0<c1:=by omega
 have hcc2:¬ 0<c2:=by omega
 have hcc3:¬ 0<c3:=by omega
 have hcc4:¬ 0<c4:=by omega
 have hcc5:¬ 0<c5:=by omega
 have lx5:=c1_ I
 have lx6:=c2_ I
 have lx7:=c3_ I
 have lx8:=c4_ I
 have lx9:=c5_ I
 have lx10:=c6_ I
 refine xa_ fun K O T Y=>?_
 refine tk2_ ?_
 refine ck Tryz.call38 (fun w' hw=>qa8 l l2 c1 _ (by first|exact HC1.out|(simp only [];exact HC1.out)) om om) ?_
 iterate 4 refine tk ?_
 refine ck Tryz.call38 (fun w' hw=>qa8 h2 h c2 _ (by first|exact HC2.out|(simp only [];exact HC2.out)) om om) ?_
 iterate 5 refine tk ?_
 refine ck Tryz.call38 (fun w' hw=>qa8 l l3 c3 _ (by first|exact HC3.out|(simp only [];exact HC3.out)) om om) ?_
 iterate 5 refine tk ?_
 refine ck Tryz.call38 (fun w' hw=>qa8 h h3 c4 _ (by first|exact HC4.out|(simp only [];exact HC4.out)) om om) ?_
 iterate 5 refine tk ?_
 refine ck Tryz.call38 (fun w' hw=>qa8 l2 h2 c5 _ (by first|exact HC5.out|(simp only [];exact HC5.out)) om om) ?_
 refine tk2_ ?_
 refine nlS Y I fun vw13 J=>?_
 clear Y T I lx5 lx6 lx7 lx8 lx9 lx10
 go_wp2
 refine kF_ O (((((J.out).er 6).er 5).er 3).er 1) fun Wx13 I=>?_;clear O K
 clear J
 clear hcc1 hcc2 hcc3 hcc4 hcc5
 refine wp_cond_false (by rfl) ?_
 refine wp_skip ?_
 show Code.wp _ _ _ _ _
 refine wp_seq ?_
 rcases Nat.eq_zero_or_pos r with hq0|hq0
 ·have HQ0:=lh_ hq0
  clear hq0
  have hqz:((r:Int) == 0)=true:=by have h9:=HQ0.out;simp [h9]
  refine ks2_ fun K O T Y=>?_
  refine tk2_ ?_
  refine nlS Y I fun vw14 J=>?_
  clear Y T I
  go_wp2
  refine kO O ?_;clear O K
  have I:=J;clear J
  clear hqz
  refine wp_cond_true (by rfl) ?_
  have HB:=HPb I
  refine ks2_ fun K O T Y=>?_
  refine ck Tryz.call22 (fun w' hw=>qa6 _ (lh_ (HT.out.gr (Gr.trans HB.out hw)))) ?_
  refine tk ?_
  refine nlS Y I fun vw15 J=>?_
  clear Y T I HB
  go_wp2
  refine kO O ?_;clear O K
  have I:=J;clear J
  refine wp_ret ?_
  try simp only [Exit.then,Exit.inBlock]
  exact bodyPost_ret (v:=.bool true) (by simp [results,Tryz.results7,go_sem]) rfl ⟨rfl,I.out.1⟩
 ·obtain ⟨j,hj⟩:∃ j,r=j+1:=⟨r - 1,by omega⟩
  have HQJ:=lh_ hj
  have hjk:j≤100:=by omega
  have HF1:Hid ((2:Rat)*l2=rlo ((4:Rat)*a) j):=lh_ (by rw [qp5,← hj,HL2.out])
  have HF2:Hid ((2:Rat)*h2=rhi ((4:Rat)*a) j):=lh_ (by rw [qs4,← hj,HH2.out])
  have HA4:Hid (0≤(4:Rat)*a):=lh_ (Rat.mul_nonneg (by decide +kernel) HA0.out)
  clear hj hq0
  have hqz:((r:Int) == 0)=false:=by have h9:¬ ((r:Int)=0):=(by have:=HQJ.out;omega);simpa using h9
  refine ks2_ fun K O T Y=>?_
  refine tk2_ ?_
  refine nlS Y I fun vw14 J=>?_
  clear Y T I
  go_wp2
  refine kO O ?_;clear O K
  have I:=J;clear J
  clear hqz
  refine wp_cond_false (by rfl) ?_
  refine wp_skip ?_
  show Code.wp _ _ _ _ _
  have hwj:IntKind.i64.wrap ((r:Int) - 1)=(j:Int):=by have:=HQJ.out;rw [IntKind.wrap_i64];omega
  have HZ11:Hid (((4:Int):Rat)=(4:Rat)):=lh_ (by decide +kernel)
  have su11:sz ((4:Rat))≤2:=qd5 (qa4.2 (by decide +kernel)) (qa4.2 (by decide +kernel))
  obtain ⟨u12,HZ12⟩:∃ z,Hid ((4:Rat)*(a)=z):=⟨_,lh_ rfl⟩
  have su12:sz u12≤6:=by rw [← HZ12.out];have:=qb0 (4:Rat) a;omega
  obtain ⟨u13,HZ13⟩:∃ z,Hid (rlo u12 j=z):=⟨_,lh_ rfl⟩
  have su13:sz u13≤16:=by rw [← HZ13.out];exact Nat.le_trans (qd2 om om) om
  have lx3:=c0_ I
  refine kS fun K O=>?_
  refine qa2 10 [9] [8] (fun _=>25) (fun _=>.cells #[.int .u64 0,.string ⟨#[]⟩,.bool false,.int .u64 0,.string ⟨#[]⟩] 36) [(true,1),(true,3),(true,4),(true,0),(true,2),(true,5),(true,6),(true,7),(true,8)] (by kernel_rfl) (by kernel_rfl) (by intro i hi;simp only [List.mem_cons,List.not_mem_nil,or_false] at hi;rcases hi with rfl <;> exact ⟨_,rfl,rfl,rfl,by simp,fun ρ w=>by kernel_rfl⟩) (by intro i hi;simp only [List.mem_cons,List.not_mem_nil,or_false] at hi;rcases hi with rfl <;> exact ⟨_,rfl,qb9⟩) (fun _ _ _ _ _ h=>h) (fun T Y=>?_)
  refine tk3_ ?_
  refine ck Tryz.call32 (fun w' hw=>qb5 (4) (4:Rat) _ HZ11.out om om) ?_
  refine ck Tryz.call39 (fun w' hw=>qc7 (4:Rat) a u12 _ HZ12.out om om) ?_
  refine ck Tryz.call23 (fun w' hw=>qb1 u12 u13 j _ (lh_ (by simp only [← HZ13.out,← HZ12.out];exact HA4.out)) (lh_ HZ13.out) om om) ?_
  refine tk3_ ?_
  refine qa1 (Y.out _ _ ?_)
  intro G vw15 hg hf
  simp only [puts,Act.put,lA,lB,lC,lD,lE,↓reduceIte,Nat.reduceEqDiff]
  have J:=lh_ (I.out.fr hg hf (zs:=[(#[.int .u64 0,.string ⟨#[]⟩,.bool false,.int .u64 0,.string ⟨#[]⟩],36)]) rfl (by decide) (by decide))
  simp only [zq1_,zq2_,zq3_,zq4_,lF,lG] at J
  clear Y T I hg hf lx3
  generalize G 9=gx11 at *
  have lx11:=c3_ J;have fx11:=f3_ J
  have r0:=Gr.refl vw15
  go_wp2
  refine kO O ?_;clear O K
  clear r0 lx11 fx11
  refine fH ((((J.out).put2 3 0 rfl).put2 3 2 rfl).put 3 4 _ rfl) fun Wx17 I=>?_
  clear J
  clear hwj
  have hwj:IntKind.i64.wrap ((r:Int) - 1)=(j:Int):=by have:=HQJ.out;rw [IntKind.wrap_i64];omega
  have HZ14:Hid (((4:Int):Rat)=(4:Rat)):=lh_ (by decide +kernel)
  have su14:sz ((4:Rat))≤2:=qd5 (qa4.2 (by decide +kernel)) (qa4.2 (by decide +kernel))
  have HZ15:Hid ((4:Rat)*(a)=u12):=lh_ (by first|exact ok|exact HF1.out|exact HF2.out|exact HA0.out|exact HB0.out|(simp only [← HZ13.out,← HZ12.out] <;> first|exact ok|exact HF1.out|exact HF2.out|exact HA0.out|exact HB0.out))
  have su15:sz u12≤6:=by have e:=HZ15.out;first|omega|(rw [← e];have:=qb0 (4:Rat) a;omega)
  obtain ⟨u16,HZ16⟩:∃ z,Hid (rhi u12 j=z):=⟨_,lh_ rfl⟩
  have su16:sz u16≤16:=by rw [← HZ16.out];exact Nat.le_trans (qd8 om om) om
  have lx3:=c0_ I
  refine kS fun K O=>?_
  refine qa2 10 [9] [8] (fun _=>27) (fun _=>.cells #[.int .u64 0,.string ⟨#[]⟩,.bool false,.int .u64 0,.string ⟨#[]⟩] 36) [(true,1),(true,3),(true,4),(true,0),(true,2),(true,5),(true,6),(true,7),(true,8)] (by kernel_rfl) (by kernel_rfl) (by intro i hi;simp only [List.mem_cons,List.not_mem_nil,or_false] at hi;rcases hi with rfl <;> exact ⟨_,rfl,rfl,rfl,by simp,fun ρ w=>by kernel_rfl⟩) (by intro i hi;simp only [List.mem_cons,List.not_mem_nil,or_false] at hi;rcases hi with rfl <;> exact ⟨_,rfl,qb9⟩) (fun _ _ _ _ _ h=>h) (fun T Y=>?_)
  refine tk3_ ?_
  refine ck Tryz.call32 (fun w' hw=>qb5 (4) (4:Rat) _ HZ14.out om om) ?_
  refine ck Tryz.call39 (fun w' hw=>qc7 (4:Rat) a u12 _ HZ15.out om om) ?_
  refine ck Tryz.call25 (fun w' hw=>qb6 u12 u16 j _ (lh_ (by simp only [← HZ16.out,← HZ13.out,← HZ12.out];exact HA4.out)) (lh_ HZ16.out) om om) ?_
  refine tk3_ ?_
  refine qa1 (Y.out _ _ ?_)
  intro G vw16 hg hf
  simp only [puts,Act.put,lA,lB,lC,lD,lE,↓reduceIte,Nat.reduceEqDiff]
  have J:=lh_ (I.out.fr hg hf (zs:=[(#[.int .u64 0,.string ⟨#[]⟩,.bool false,.int .u64 0,.string ⟨#[]⟩],36)]) rfl (by decide) (by decide))
  simp only [zq1_,zq2_,zq3_,zq4_,lF,lG] at J
  clear Y T I hg hf lx3
  generalize G 9=gx12 at *
  have lx12:=c4_ J;have fx12:=f4_ J
  have r0:=Gr.refl vw16
  go_wp2
  refine kO O ?_;clear O K
  clear r0 lx12 fx12
  refine fH (((((J.out).put2 4 0 rfl).put2 4 2 rfl).put 4 4 _ rfl).er 0) fun Wx18 I=>?_
  clear J
  clear hwj
  have HB:=HPb I
  have HZ17:Hid (((2:Int):Rat)=(2:Rat)):=lh_ (by decide +kernel)
  have su17:sz ((2:Rat))≤2:=qd5 (qa4.2 (by decide +kernel)) (qa4.2 (by decide +kernel))
  have HZ18:Hid ((2:Rat)*(l2)=u13):=lh_ (by first|exact ok|exact HF1.out|exact HF2.out|exact HA0.out|exact HB0.out|(simp only [← HZ16.out,← HZ13.out,← HZ12.out] <;> first|exact ok|exact HF1.out|exact HF2.out|exact HA0.out|exact HB0.out))
  have su18:sz u13≤16:=by have e:=HZ18.out;first|omega|(rw [← e];have:=qb0 (2:Rat) l2;omega)
  have HZ19:Hid (((2:Int):Rat)=(2:Rat)):=lh_ (by decide +kernel)
  have su19:sz ((2:Rat))≤2:=qd5 (qa4.2 (by decide +kernel)) (qa4.2 (by decide +kernel))
  have HZ20:Hid ((2:Rat)*(h2)=u16):=lh_ (by first|exact ok|exact HF1.out|exact HF2.out|exact HA0.out|exact HB0.out|(simp only [← HZ16.out,← HZ13.out,← HZ12.out] <;> first|exact ok|exact HF1.out|exact HF2.out|exact HA0.out|exact HB0.out))
  have su20:sz u16≤16:=by have e:=HZ20.out;first|omega|(rw [← e];have:=qb0 (2:Rat) h2;omega)
  have lx6:=c0_ I
  have lx8:=c1_ I
  have lx11:=c2_ I
  have lx12:=c3_ I
  refine kS fun K O=>?_
  refine xe_ fun T Y=>?_
  iterate 9 refine tk ?_
  refine ck Tryz.call32 (fun w' hw=>qb5 (2) (2:Rat) _ HZ17.out om om) ?_
  refine ck Tryz.call39 (fun w' hw=>qc7 (2:Rat) l2 u13 _ HZ18.out om om) ?_
  iterate 5 refine tk ?_
  refine ck Tryz.call32 (fun w' hw=>qb5 (2) (2:Rat) _ HZ19.out om om) ?_
  refine ck Tryz.call39 (fun w' hw=>qc7 (2:Rat) h2 u16 _ HZ20.out om om) ?_
  refine tk3_ ?_
  refine ck Tryz.call22 (fun w' hw=>qa6 _ (lh_ (HT.out.gr (Gr.trans HB.out hw)))) ?_
  refine tk ?_
  refine nlD Y I fun vw17 J=>?_
  clear Y T I lx6 lx8 lx11 lx12 HB
  go_wp2
  refine kF_ O (((((J.out).er 3).er 2).er 1).er 0) fun Wx19 I=>?_;clear O K
  clear J
  refine wp_ret ?_
  try simp only [Exit.then,Exit.inBlock]
  exact bodyPost_ret (v:=.bool true) (by simp [results,Tryz.results7,go_sem]) rfl ⟨rfl,I.out.1⟩
theorem qJ8 (n1 d1 n2 d2 m n:Int) (w:World) (h1_1:-9223372036854775808≤n1) (h2_1:n1≤9223372036854775807) (h3_1:0≤d1) (h4_1:d1≤4294967295) (h1_2:-9223372036854775808≤n2) (h2_2:n2≤9223372036854775807) (h3_2:0≤d2) (h4_2:d2≤4294967295) (hm1:0≤m) (hm2:m≤255) (hn1:0≤n) (hn2:n≤255) (HT:Hid (Tab w)) :
  Calls Tryz.prog 7 #[.agg #[.int .i64 n1,.int .u32 d1],.agg #[.int .i64 n2,.int .u32 d2],.int .u8 m,.int .u8 n] w fun e w'=>e=.returned (.bool true)∧Below w.heap.size w w':=by
 obtain ⟨r,hr,hr2⟩:=qz6 hm1
 obtain ⟨t,ht,ht2⟩:=qz6 hn1
 have hs1:sz (qabs (qv n1 d1))≤4:=by rw [qc8];exact qh0 n1 d1 h1_1 h2_1 h3_1 h4_1
 have hs2:sz (qabs (qv n2 d2))≤4:=by rw [qc8];exact qh0 n2 d2 h1_2 h2_2 h3_2 h4_2
 have hx:=qj2 (qv n1 d1)
 have hy:=qj2 (qv n2 d2)
 by_cases hc:0<sgQ (qabs (qv n1 d1) - qabs (qv n2 d2))
 ·have hab:=xA4 hc
  by_cases hp:t<r
  ·exact xt1 n1 d1 n2 d2 m n _ _ _ _ _ _ _ _ _ _ r t _ _ _ _ _ _ w h1_1 h2_1 h3_1 h4_1 h1_2 h2_2 h3_2 h4_2 hm1 hm2 hn1 hn2 (lh_ hr) (lh_ ht) hp hr2 (lh_ rfl) (lh_ rfl) (lh_ rfl) (lh_ rfl) hs2 hs1 (lh_ hy) (lh_ hx) (lh_ rfl) hc (lh_ rfl) (lh_ rfl) (lh_ rfl) (lh_ rfl) (lh_ rfl) (lh_ rfl) (lh_ rfl) (qg0 (qs9 hy om)) (lh_ rfl) (qg0 (qt0 hy om)) (lh_ rfl) (qg0 (qs8 _ hy hab)) (lh_ rfl) (qg0 (qt3 _ hy hab)) (lh_ rfl) (qg0 (qv3 _ _)) HT
  ·exact xl6 n1 d1 n2 d2 m n _ _ _ _ _ _ _ _ _ _ r t _ _ _ _ _ _ w h1_1 h2_1 h3_1 h4_1 h1_2 h2_2 h3_2 h4_2 hm1 hm2 hn1 hn2 (lh_ hr) (lh_ ht) om ht2 (lh_ rfl) (lh_ rfl) (lh_ rfl) (lh_ rfl) hs2 hs1 (lh_ hy) (lh_ hx) (lh_ rfl) hc (lh_ rfl) (lh_ rfl) (lh_ rfl) (lh_ rfl) (lh_ rfl) (lh_ rfl) (lh_ rfl) (qg0 (qs9 hy om)) (lh_ rfl) (qg0 (qt0 hy om)) (lh_ rfl) (qg0 (qs8 _ hy hab)) (lh_ rfl) (qg0 (qt3 _ hy hab)) (lh_ rfl) (qg0 (qv3 _ _)) HT
 ·have hab:=xv6 hc
  by_cases hp:t<r
  ·exact xp9 n1 d1 n2 d2 m n _ _ _ _ _ _ _ _ _ _ r t _ _ _ _ _ _ w h1_1 h2_1 h3_1 h4_1 h1_2 h2_2 h3_2 h4_2 hm1 hm2 hn1 hn2 (lh_ hr) (lh_ ht) hp hr2 (lh_ rfl) (lh_ rfl) (lh_ rfl) (lh_ rfl) hs1 hs2 (lh_ hx) (lh_ hy) (lh_ rfl) hc (lh_ rfl) (lh_ rfl) (lh_ rfl) (lh_ rfl) (lh_ rfl) (lh_ rfl) (lh_ rfl) (qg0 (qs9 hx om)) (lh_ rfl) (qg0 (qt0 hx om)) (lh_ rfl) (qg0 (qs8 _ hx hab)) (lh_ rfl) (qg0 (qt3 _ hx hab)) (lh_ rfl) (qg0 (qv3 _ _)) HT
  ·exact xn6 n1 d1 n2 d2 m n _ _ _ _ _ _ _ _ _ _ r t _ _ _ _ _ _ w h1_1 h2_1 h3_1 h4_1 h1_2 h2_2 h3_2 h4_2 hm1 hm2 hn1 hn2 (lh_ hr) (lh_ ht) om ht2 (lh_ rfl) (lh_ rfl) (lh_ rfl) (lh_ rfl) hs1 hs2 (lh_ hx) (lh_ hy) (lh_ rfl) hc (lh_ rfl) (lh_ rfl) (lh_ rfl) (lh_ rfl) (lh_ rfl) (lh_ rfl) (lh_ rfl) (qg0 (qs9 hx om)) (lh_ rfl) (qg0 (qt0 hx om)) (lh_ rfl) (qg0 (qs8 _ hx hab)) (lh_ rfl) (qg0 (qt3 _ hx hab)) (lh_ rfl) (qg0 (qv3 _ _)) HT
end Go.Proofs.YtaflakcemiilaaaGreatDoor
