
/- recons.join. -/
import Derived.Test.YtobojnodohjiaaaGreatDoorRecA
import Derived.Test.YtobojnodohjiaaaGreatDoorCrtP
import Derived.Test.YtobojnodohjiaaaGreatDoorPY
import Derived.Test.YtobojnodohjiaaaGreatDoorLawZ2
set_option maxRecDepth 100000
set_option maxHeartbeats 16000000
set_option linter.unusedVariables false
set_option linter.unusedSimpArgs false
namespace Go.Proofs.YtobojnodohjiaaaGreatDoor
open Go.RowKit
attribute [local go_sem ↓] Go.wp_at_zero Go.wp_at_succ
attribute [local go_sem ↓] qb8 qa3 qc8
attribute [local go_sem ↓] qb8 qa3 qd9 qb7
theorem xf7 (R1 R2 gg x y d q:Int) (M1 M2:Nat) (pt m:Nat) (xq mx su z:Int) (w:World) (HG0:Hid ((egcd ((M1:Nat):Int) ((M2:Nat):Int)).1=gg)) (HGX:Hid ((egcd ((M1:Nat):Int) ((M2:Nat):Int)).2.1=x)) (HGY:Hid ((egcd ((M1:Nat):Int) ((M2:Nat):Int)).2.2=y)) (HGN:Hid (gg≠0)) (HGP:Hid (0<Int.natAbs gg)) (HD:Hid (R2 - R1=d)) (HQ:Hid (d / gg=q)) (HR:Hid (d % gg=0)) (HM2:Hid (¬ M2=0)) (HPT:Hid (M2 / Int.natAbs gg=pt)) (HM:Hid (M1*pt=m)) (HM0:Hid (0<m)) (HXQ:Hid (x*q=xq)) (HMX:Hid (((M1:Nat):Int)*xq=mx)) (HSU:Hid (R1+mx=su)) (HZ:Hid (su % ((m:Nat):Int)=z)) (hw1:wl R1.natAbs≤100) (hw2:wl R2.natAbs≤100) (hw3:wl M1≤100) (hw4:wl M2≤100) :
  Calls Tryz.prog 107 #[(Value.agg #[.int .u64 (lo R1.natAbs),.string (bg R1.natAbs),.bool (R1<0),.int .u64 (lo M1),.string (bg M1)]),(Value.agg #[.int .u64 (lo R2.natAbs),.string (bg R2.natAbs),.bool (R2<0),.int .u64 (lo M2),.string (bg M2)])] w fun e w'=>e=.returned ((.tuple #[.agg #[.int .u64 (lo z.natAbs),.string (bg z.natAbs),.bool (z<0),.int .u64 (lo m),.string (bg m)],.int .i64 0]))∧Below w.heap.size w w':=by
 go_enter Tryz.func107,Tryz.ntmps107
 have I:=lh_ (hp0 w)
 refine kS fun K O=>?_
 refine wp_region_lit ?_
 go_wp2
 refine kF_ O ((((I.out).aL (w.heap.size)).aL (w.heap.size+1)).aL (w.heap.size+1+1)) fun Wx0 J=>?_;clear O K
 clear I;have I:=J;clear J
 generalize w.heap.size+1+1=gx2 at *
 generalize w.heap.size+1=gx1 at *
 refine wp_seq ?_
 have hd1:decide (M2=0)=false:=decide_eq_false (by first|exact ok|exact HM2.out|exact HRN.out)
 have lx1:=kc1_ I
 refine ks4_ fun K O T Y=>?_
 iterate 4 refine tk ?_
 refine nlS Y I fun vw1 J=>?_
 clear Y T I lx1
 go_wp2
 refine kO O ?_;clear O K
 have I:=J;clear J
 clear hd1
 refine wp_cond_false (by rfl) ?_
 refine wp_skip ?_
 show Code.wp _ _ _ _ _
 have su1:wl (Int.natAbs ((M1:Nat):Int))≤100:=by rw [Int.natAbs_natCast];omega
 have su2:wl (Int.natAbs ((M2:Nat):Int))≤100:=by rw [Int.natAbs_natCast];omega
 have HZ3:Hid ((egcd (((M1:Nat):Int)) (((M2:Nat):Int))).1=gg):=lh_ (HG0.out)
 have su3:wl gg.natAbs≤104:=by have e:=HZ3.out;first|omega|(rw [← e];have:=qj3 (a:=((M1:Nat):Int)) (b:=((M2:Nat):Int)) (M:=100) om om (by decide);omega)
 have HZ4:Hid ((egcd (((M1:Nat):Int)) (((M2:Nat):Int))).2.1=x):=lh_ (HGX.out)
 have su4:wl x.natAbs≤104:=by have e:=HZ4.out;first|omega|(rw [← e];have:=qj3 (a:=((M1:Nat):Int)) (b:=((M2:Nat):Int)) (M:=100) om om (by decide);omega)
 have HZ5:Hid ((egcd (((M1:Nat):Int)) (((M2:Nat):Int))).2.2=y):=lh_ (HGY.out)
 have su5:wl y.natAbs≤104:=by have e:=HZ5.out;first|omega|(rw [← e];have:=qj3 (a:=((M1:Nat):Int)) (b:=((M2:Nat):Int)) (M:=100) om om (by decide);omega)
 have lx0:=kc0_ I
 have lx1:=kc1_ I
 refine kS fun K O=>?_
 refine qa1 14 [11,12,13] [9,10] (fun i=>if i=11 then 6 else if i=12 then 7 else 8) (fun i=>if i=11 then .cells #[.int .u64 0,.string ⟨#[]⟩,.bool false] 34 else if i=12 then .cells #[.int .u64 0,.string ⟨#[]⟩,.bool false] 34 else .cells #[.int .u64 0,.string ⟨#[]⟩,.bool false] 34) [(true,0),(true,1),(true,3),(true,4),(true,2),(true,5),(true,6),(true,7),(true,8),(true,9),(true,10)] (by kernel_rfl) (by kernel_rfl) (by intro i hi;simp only [List.mem_cons,List.not_mem_nil,or_false] at hi;rcases hi with rfl|rfl|rfl <;> exact ⟨_,rfl,rfl,rfl,by simp,fun ρ w=>by kernel_rfl⟩) (by intro i hi;simp only [List.mem_cons,List.not_mem_nil,or_false] at hi;rcases hi with rfl|rfl <;> exact ⟨_,rfl,qa_⟩) (fun _ _ _ _ _ h=>h) (fun T Y=>?_)
 iterate 4 refine tk ?_
 refine ck Tryz.call95 (fun w' hw=>qe2 M1 _) ?_
 refine ck Tryz.call95 (fun w' hw=>qe2 M2 _) ?_
 refine ck Tryz.call36 (fun w' hw=>xt6 (((M1:Nat):Int)) (((M2:Nat):Int)) gg x y _ HZ3.out HZ4.out HZ5.out om om) ?_
 iterate 4 refine tk ?_
 refine qa0 (Y.out _ _ ?_)
 intro G vw2 hg hf
 simp only [puts,Act.put,lA,lB,lC,lD,lE,↓reduceIte,Nat.reduceEqDiff]
 have J:=lh_ (I.out.fr hg hf (zs:=[(#[.int .u64 0,.string ⟨#[]⟩,.bool false],34),(#[.int .u64 0,.string ⟨#[]⟩,.bool false],34),(#[.int .u64 0,.string ⟨#[]⟩,.bool false],34)]) rfl (by decide) (by decide))
 simp only [zq1_,zq2_,zq3_,zq4_,lF,lG] at J
 clear Y T I hg hf lx0 lx1
 generalize G 11=gx4 at *
 generalize G 12=gx5 at *
 generalize G 13=gx6 at *
 have lx4:=kc3_ J;have fx4:=kf3_ J
 have lx5:=kc4_ J;have fx5:=kf4_ J
 have lx6:=kc5_ J;have fx6:=kf5_ J
 have r0:=Gr.refl vw2
 obtain ⟨d4_5,d5_4⟩:=J.out.ne 3 4 rfl rfl (by decide)
 obtain ⟨d4_6,d6_4⟩:=J.out.ne 3 5 rfl rfl (by decide)
 obtain ⟨d5_6,d6_5⟩:=J.out.ne 4 5 rfl rfl (by decide)
 go_wp2
 refine kO O ?_;clear O K
 clear r0 lx4 fx4 lx5 fx5 lx6 fx6 d4_5 d5_4 d4_6 d6_4 d5_6 d6_5
 refine fH ((((((((J.out).put2 3 0 rfl).put 3 2 _ rfl).put2 4 0 rfl).put 4 2 _ rfl).put2 5 0 rfl).put 5 2 _ rfl).er 5) fun Wx3 I=>?_
 clear J
 have HZ6:Hid (R2 - R1=d):=lh_ (HD.out)
 have su6:wl d.natAbs≤101:=by have e:=HZ6.out;first|omega|(rw [← e];have:=qj4 R2 R1;omega)
 have HZ7:Hid (d / gg=q):=lh_ (HQ.out)
 have su7:wl q.natAbs≤102:=by have e:=HZ7.out;first|omega|(rw [← e];have:=qi0 d gg;omega)
 have HZ8:Hid (d % gg=0):=lh_ (HR.out)
 have su8:wl (Int.natAbs (0))≤104:=by have e:=HZ8.out;first|omega|(rw [← e];have:=ql2 d gg (by exact HGN.out);omega)|exact qb1.2 (by decide +kernel)
 have lx0:=kc0_ I
 have lx1:=kc1_ I
 have lx4:=kc3_ I
 refine kS fun K O=>?_
 refine qa1 13 [11,12] [9,10] (fun i=>if i=11 then 9 else 10) (fun i=>if i=11 then .cells #[.int .u64 0,.string ⟨#[]⟩,.bool false] 34 else .cells #[.int .u64 0,.string ⟨#[]⟩,.bool false] 34) [(true,0),(true,1),(true,2),(true,3),(true,5),(true,4),(true,6),(true,7),(true,8),(true,9),(true,10)] (by kernel_rfl) (by kernel_rfl) (by intro i hi;simp only [List.mem_cons,List.not_mem_nil,or_false] at hi;rcases hi with rfl|rfl <;> exact ⟨_,rfl,rfl,rfl,by simp,fun ρ w=>by kernel_rfl⟩) (by intro i hi;simp only [List.mem_cons,List.not_mem_nil,or_false] at hi;rcases hi with rfl|rfl <;> exact ⟨_,rfl,qa_⟩) (fun _ _ _ _ _ h=>h) (fun T Y=>?_)
 iterate 5 refine tk ?_
 refine ck Tryz.call98 (fun w' hw=>qB1 R2 R1 d _ HZ6.out om om) ?_
 refine ck Tryz.call42 (fun w' hw=>qx_ d gg q (0) _ HZ7.out HZ8.out (by exact HGN.out) om om) ?_
 iterate 4 refine tk ?_
 refine qa0 (Y.out _ _ ?_)
 intro G vw3 hg hf
 simp only [puts,Act.put,lA,lB,lC,lD,lE,↓reduceIte,Nat.reduceEqDiff]
 have J:=lh_ (I.out.fr hg hf (zs:=[(#[.int .u64 0,.string ⟨#[]⟩,.bool false],34),(#[.int .u64 0,.string ⟨#[]⟩,.bool false],34)]) rfl (by decide) (by decide))
 simp only [zq1_,zq2_,zq3_,zq4_,lF,lG] at J
 clear Y T I hg hf lx0 lx1 lx4
 generalize G 11=gx7 at *
 generalize G 12=gx8 at *
 have lx7:=kc5_ J;have fx7:=kf5_ J
 have lx8:=kc6_ J;have fx8:=kf6_ J
 have r0:=Gr.refl vw3
 obtain ⟨d7_8,d8_7⟩:=J.out.ne 5 6 rfl rfl (by decide)
 go_wp2
 refine kO O ?_;clear O K
 clear r0 lx7 fx7 lx8 fx8 d7_8 d8_7
 refine fH (((((J.out).put2 5 0 rfl).put 5 2 _ rfl).put2 6 0 rfl).put 6 2 _ rfl) fun Wx4 I=>?_
 clear J
 refine wp_seq ?_
 have lx8:=kc6_ I
 refine ks3_ fun K O T Y=>?_
 refine tk3_ ?_
 refine nlS Y I fun vw4 J=>?_
 clear Y T I lx8
 go_wp2
 refine kF_ O ((J.out).er 6) fun Wx5 I=>?_;clear O K
 clear J
 refine wp_cond_false (by rfl) ?_
 refine wp_skip ?_
 show Code.wp _ _ _ _ _
 have HZ9:Hid (M2 / gg.natAbs=pt):=lh_ (HPT.out)
 have su9:wl pt≤100:=by have e:=HZ9.out;first|omega|(rw [← e];have:=qj7 M2 gg.natAbs;omega)
 have HZ10:Hid (M2 % gg.natAbs=(M2 % Int.natAbs gg)):=lh_ (rfl)
 have su10:wl ((M2 % Int.natAbs gg))≤100:=by have:=ql3 M2 gg.natAbs;omega
 have lx1:=kc1_ I
 have lx4:=kc3_ I
 refine kS fun K O=>?_
 refine qa1 11 [9,10] [7,8] (fun i=>if i=9 then 12 else 13) (fun i=>if i=9 then .cells #[.int .u64 0,.string ⟨#[]⟩] 30 else .cells #[.int .u64 0,.string ⟨#[]⟩] 30) [(true,0),(true,1),(true,2),(true,3),(true,4),(true,5),(true,6),(true,7),(true,8)] (by kernel_rfl) (by kernel_rfl) (by intro i hi;simp only [List.mem_cons,List.not_mem_nil,or_false] at hi;rcases hi with rfl|rfl <;> exact ⟨_,rfl,rfl,rfl,by simp,fun ρ w=>by kernel_rfl⟩) (by intro i hi;simp only [List.mem_cons,List.not_mem_nil,or_false] at hi;rcases hi with rfl|rfl <;> exact ⟨_,rfl,qa_⟩) (fun _ _ _ _ _ h=>h) (fun T Y=>?_)
 refine tk3_ ?_
 refine ck Tryz.call100 (fun w' hw=>qf2 gg _) ?_
 refine ck Tryz.call43 (fun w' hw=>qw8 M2 gg.natAbs pt ((M2 % Int.natAbs gg)) _ HZ9.out HZ10.out (by exact HGP.out) om om) ?_
 iterate 4 refine tk ?_
 refine qa0 (Y.out _ _ ?_)
 intro G vw5 hg hf
 simp only [puts,Act.put,lA,lB,lC,lD,lE,↓reduceIte,Nat.reduceEqDiff]
 have J:=lh_ (I.out.fr hg hf (zs:=[(#[.int .u64 0,.string ⟨#[]⟩],30),(#[.int .u64 0,.string ⟨#[]⟩],30)]) rfl (by decide) (by decide))
 simp only [zq1_,zq2_,zq3_,zq4_,lF,lG] at J
 clear Y T I hg hf lx1 lx4
 generalize G 9=gx9 at *
 generalize G 10=gx10 at *
 have lx9:=kc6_ J;have fx9:=kf6_ J
 have lx10:=kc7_ J;have fx10:=kf7_ J
 have r0:=Gr.refl vw5
 obtain ⟨d9_10,d10_9⟩:=J.out.ne 6 7 rfl rfl (by decide)
 go_wp2
 refine kO O ?_;clear O K
 clear r0 lx9 fx9 lx10 fx10 d9_10 d10_9
 refine fH ((((((J.out).put2 6 0 rfl).put2 7 0 rfl).er 7).er 3).er 1) fun Wx7 I=>?_
 clear J
 have HZ11:Hid (M1*(pt)=m):=lh_ (HM.out)
 have su11:wl m≤200:=by have e:=HZ11.out;first|omega|(rw [← e];have:=qf1 M1 pt;omega)
 have lx0:=kc0_ I
 have lx9:=kc4_ I
 refine ks4_ fun K O T Y=>?_
 refine tk3_ ?_
 refine ck Tryz.call110 (fun w' hw=>qL7 M1 pt m _ HZ11.out om om) ?_
 refine nlS Y I fun vw6 J=>?_
 clear Y T I lx0 lx9
 go_wp2
 refine kF_ O (((J.out).aL (vw6.heap.size)).er 4) fun Wx8 I=>?_;clear O K
 clear J
 generalize vw6.heap.size=gx11 at *
 have su12:wl (Int.natAbs ((M1:Nat):Int))≤100:=by rw [Int.natAbs_natCast];omega
 have HZ13:Hid (x*(q)=xq):=lh_ (HXQ.out)
 have su13:wl xq.natAbs≤206:=by have e:=HZ13.out;first|omega|(rw [← e];have:=qd7 x q;omega)
 have HZ14:Hid ((((M1:Nat):Int))*(xq)=mx):=lh_ (HMX.out)
 have su14:wl mx.natAbs≤306:=by have e:=HZ14.out;first|omega|(rw [← e];have:=qd7 (((M1:Nat):Int)) xq;omega)
 have HZ15:Hid (R1+(mx)=su):=lh_ (HSU.out)
 have su15:wl su.natAbs≤307:=by have e:=HZ15.out;first|omega|(rw [← e];have:=qf7 R1 mx;omega)
 have HZ16:Hid (su % ((m:Nat):Int)=z):=lh_ (HZ.out)
 have su16:wl z.natAbs≤200:=by have e:=HZ16.out;first|omega|(rw [← e];exact qx8 (by exact HM0.out) om)
 have lx0:=kc0_ I
 have lx5:=kc2_ I
 have lx7:=kc3_ I
 have lx11:=kc4_ I
 refine kS fun K O=>?_
 refine xG7 fun T Y=>?_
 iterate 8 refine tk ?_
 refine ck Tryz.call95 (fun w' hw=>qe2 M1 _) ?_
 refine ck Tryz.call39 (fun w' hw=>ql_ x q xq _ HZ13.out om om) ?_
 refine ck Tryz.call39 (fun w' hw=>ql_ (((M1:Nat):Int)) xq mx _ HZ14.out om om) ?_
 refine ck Tryz.call41 (fun w' hw=>qq3 R1 mx su _ HZ15.out om om) ?_
 refine ck Tryz.call96 (fun w' hw=>qn9 su z m _ (lh_ HZ16.out) (by exact HM0.out) om om) ?_
 refine tk ?_
 refine nlD Y I fun vw7 J=>?_
 clear Y T I lx0 lx5 lx7 lx11
 have lx2:=kc1_ J;have fx2:=kf1_ J
 have r0:=Gr.refl vw7
 go_wp2
 refine kO O ?_;clear O K
 clear r0 lx2 fx2
 refine fH ((((((((J.out).put2 1 0 rfl).put2 1 2 rfl).put 1 4 _ rfl).er 4).er 3).er 2).er 0) fun Wx9 I=>?_
 clear J
 refine wp_ret ?_
 try simp only [Exit.then,Exit.inBlock]
 have lx2:=kc0_ I
 have r0:=Gr.refl Wx9
 exact bodyPost_ret (v:=.tuple #[(.agg #[.int .u64 (lo z.natAbs),.string (bg z.natAbs),.bool (z<0),.int .u64 (lo m),.string (bg m)]),.int .i64 0]) (by simp [results,Tryz.results107,go_sem,lx2 _ r0]) rfl ⟨rfl,I.out.1⟩
theorem xf6 (R1 R2 gg x y d q r:Int) (M1 M2:Nat) (w:World) (HG0:Hid ((egcd ((M1:Nat):Int) ((M2:Nat):Int)).1=gg)) (HGX:Hid ((egcd ((M1:Nat):Int) ((M2:Nat):Int)).2.1=x)) (HGY:Hid ((egcd ((M1:Nat):Int) ((M2:Nat):Int)).2.2=y)) (HGN:Hid (gg≠0)) (HGP:Hid (0<Int.natAbs gg)) (HD:Hid (R2 - R1=d)) (HQ:Hid (d / gg=q)) (HR:Hid (d % gg=r)) (HM2:Hid (¬ M2=0)) (HRN:Hid (¬ r=0)) (hw1:wl R1.natAbs≤100) (hw2:wl R2.natAbs≤100) (hw3:wl M1≤100) (hw4:wl M2≤100) :
  Calls Tryz.prog 107 #[(Value.agg #[.int .u64 (lo R1.natAbs),.string (bg R1.natAbs),.bool (R1<0),.int .u64 (lo M1),.string (bg M1)]),(Value.agg #[.int .u64 (lo R2.natAbs),.string (bg R2.natAbs),.bool (R2<0),.int .u64 (lo M2),.string (bg M2)])] w fun e w'=>e=.returned ((.tuple #[(.agg #[.int .u64 0,.string ⟨#[]⟩,.bool false,.int .u64 0,.string ⟨#[]⟩]),.int .i64 6]))∧Below w.heap.size w w':=by
 go_enter Tryz.func107,Tryz.ntmps107
 have I:=lh_ (hp0 w)
 refine kS fun K O=>?_
 refine wp_region_lit ?_
 go_wp2
 refine kF_ O ((((I.out).aL (w.heap.size)).aL (w.heap.size+1)).aL (w.heap.size+1+1)) fun Wx0 J=>?_;clear O K
 clear I;have I:=J;clear J
 generalize w.heap.size+1+1=gx2 at *
 generalize w.heap.size+1=gx1 at *
 refine wp_seq ?_
 have hd1:decide (M2=0)=false:=decide_eq_false (by first|exact ok|exact HM2.out|exact HRN.out)
 have lx1:=kc1_ I
 refine ks4_ fun K O T Y=>?_
 iterate 4 refine tk ?_
 refine nlS Y I fun vw1 J=>?_
 clear Y T I lx1
 go_wp2
 refine kO O ?_;clear O K
 have I:=J;clear J
 clear hd1
 refine wp_cond_false (by rfl) ?_
 refine wp_skip ?_
 show Code.wp _ _ _ _ _
 have su1:wl (Int.natAbs ((M1:Nat):Int))≤100:=by rw [Int.natAbs_natCast];omega
 have su2:wl (Int.natAbs ((M2:Nat):Int))≤100:=by rw [Int.natAbs_natCast];omega
 have HZ3:Hid ((egcd (((M1:Nat):Int)) (((M2:Nat):Int))).1=gg):=lh_ (HG0.out)
 have su3:wl gg.natAbs≤104:=by have e:=HZ3.out;first|omega|(rw [← e];have:=qj3 (a:=((M1:Nat):Int)) (b:=((M2:Nat):Int)) (M:=100) om om (by decide);omega)
 have HZ4:Hid ((egcd (((M1:Nat):Int)) (((M2:Nat):Int))).2.1=x):=lh_ (HGX.out)
 have su4:wl x.natAbs≤104:=by have e:=HZ4.out;first|omega|(rw [← e];have:=qj3 (a:=((M1:Nat):Int)) (b:=((M2:Nat):Int)) (M:=100) om om (by decide);omega)
 have HZ5:Hid ((egcd (((M1:Nat):Int)) (((M2:Nat):Int))).2.2=y):=lh_ (HGY.out)
 have su5:wl y.natAbs≤104:=by have e:=HZ5.out;first|omega|(rw [← e];have:=qj3 (a:=((M1:Nat):Int)) (b:=((M2:Nat):Int)) (M:=100) om om (by decide);omega)
 have lx0:=kc0_ I
 have lx1:=kc1_ I
 refine kS fun K O=>?_
 refine qa1 14 [11,12,13] [9,10] (fun i=>if i=11 then 6 else if i=12 then 7 else 8) (fun i=>if i=11 then .cells #[.int .u64 0,.string ⟨#[]⟩,.bool false] 34 else if i=12 then .cells #[.int .u64 0,.string ⟨#[]⟩,.bool false] 34 else .cells #[.int .u64 0,.string ⟨#[]⟩,.bool false] 34) [(true,0),(true,1),(true,3),(true,4),(true,2),(true,5),(true,6),(true,7),(true,8),(true,9),(true,10)] (by kernel_rfl) (by kernel_rfl) (by intro i hi;simp only [List.mem_cons,List.not_mem_nil,or_false] at hi;rcases hi with rfl|rfl|rfl <;> exact ⟨_,rfl,rfl,rfl,by simp,fun ρ w=>by kernel_rfl⟩) (by intro i hi;simp only [List.mem_cons,List.not_mem_nil,or_false] at hi;rcases hi with rfl|rfl <;> exact ⟨_,rfl,qa_⟩) (fun _ _ _ _ _ h=>h) (fun T Y=>?_)
 iterate 4 refine tk ?_
 refine ck Tryz.call95 (fun w' hw=>qe2 M1 _) ?_
 refine ck Tryz.call95 (fun w' hw=>qe2 M2 _) ?_
 refine ck Tryz.call36 (fun w' hw=>xt6 (((M1:Nat):Int)) (((M2:Nat):Int)) gg x y _ HZ3.out HZ4.out HZ5.out om om) ?_
 iterate 4 refine tk ?_
 refine qa0 (Y.out _ _ ?_)
 intro G vw2 hg hf
 simp only [puts,Act.put,lA,lB,lC,lD,lE,↓reduceIte,Nat.reduceEqDiff]
 have J:=lh_ (I.out.fr hg hf (zs:=[(#[.int .u64 0,.string ⟨#[]⟩,.bool false],34),(#[.int .u64 0,.string ⟨#[]⟩,.bool false],34),(#[.int .u64 0,.string ⟨#[]⟩,.bool false],34)]) rfl (by decide) (by decide))
 simp only [zq1_,zq2_,zq3_,zq4_,lF,lG] at J
 clear Y T I hg hf lx0 lx1
 generalize G 11=gx4 at *
 generalize G 12=gx5 at *
 generalize G 13=gx6 at *
 have lx4:=kc3_ J;have fx4:=kf3_ J
 have lx5:=kc4_ J;have fx5:=kf4_ J
 have lx6:=kc5_ J;have fx6:=kf5_ J
 have r0:=Gr.refl vw2
 obtain ⟨d4_5,d5_4⟩:=J.out.ne 3 4 rfl rfl (by decide)
 obtain ⟨d4_6,d6_4⟩:=J.out.ne 3 5 rfl rfl (by decide)
 obtain ⟨d5_6,d6_5⟩:=J.out.ne 4 5 rfl rfl (by decide)
 go_wp2
 refine kO O ?_;clear O K
 clear r0 lx4 fx4 lx5 fx5 lx6 fx6 d4_5 d5_4 d4_6 d6_4 d5_6 d6_5
 refine fH ((((((((J.out).put2 3 0 rfl).put 3 2 _ rfl).put2 4 0 rfl).put 4 2 _ rfl).put2 5 0 rfl).put 5 2 _ rfl).er 5) fun Wx3 I=>?_
 clear J
 have HZ6:Hid (R2 - R1=d):=lh_ (HD.out)
 have su6:wl d.natAbs≤101:=by have e:=HZ6.out;first|omega|(rw [← e];have:=qj4 R2 R1;omega)
 have HZ7:Hid (d / gg=q):=lh_ (HQ.out)
 have su7:wl q.natAbs≤102:=by have e:=HZ7.out;first|omega|(rw [← e];have:=qi0 d gg;omega)
 have HZ8:Hid (d % gg=r):=lh_ (HR.out)
 have su8:wl r.natAbs≤104:=by have e:=HZ8.out;first|omega|(rw [← e];have:=ql2 d gg (by exact HGN.out);omega)
 have lx0:=kc0_ I
 have lx1:=kc1_ I
 have lx4:=kc3_ I
 refine kS fun K O=>?_
 refine qa1 13 [11,12] [9,10] (fun i=>if i=11 then 9 else 10) (fun i=>if i=11 then .cells #[.int .u64 0,.string ⟨#[]⟩,.bool false] 34 else .cells #[.int .u64 0,.string ⟨#[]⟩,.bool false] 34) [(true,0),(true,1),(true,2),(true,3),(true,5),(true,4),(true,6),(true,7),(true,8),(true,9),(true,10)] (by kernel_rfl) (by kernel_rfl) (by intro i hi;simp only [List.mem_cons,List.not_mem_nil,or_false] at hi;rcases hi with rfl|rfl <;> exact ⟨_,rfl,rfl,rfl,by simp,fun ρ w=>by kernel_rfl⟩) (by intro i hi;simp only [List.mem_cons,List.not_mem_nil,or_false] at hi;rcases hi with rfl|rfl <;> exact ⟨_,rfl,qa_⟩) (fun _ _ _ _ _ h=>h) (fun T Y=>?_)
 iterate 5 refine tk ?_
 refine ck Tryz.call98 (fun w' hw=>qB1 R2 R1 d _ HZ6.out om om) ?_
 refine ck Tryz.call42 (fun w' hw=>qx_ d gg q r _ HZ7.out HZ8.out (by exact HGN.out) om om) ?_
 iterate 4 refine tk ?_
 refine qa0 (Y.out _ _ ?_)
 intro G vw3 hg hf
 simp only [puts,Act.put,lA,lB,lC,lD,lE,↓reduceIte,Nat.reduceEqDiff]
 have J:=lh_ (I.out.fr hg hf (zs:=[(#[.int .u64 0,.string ⟨#[]⟩,.bool false],34),(#[.int .u64 0,.string ⟨#[]⟩,.bool false],34)]) rfl (by decide) (by decide))
 simp only [zq1_,zq2_,zq3_,zq4_,lF,lG] at J
 clear Y T I hg hf lx0 lx1 lx4
 generalize G 11=gx7 at *
 generalize G 12=gx8 at *
 have lx7:=kc5_ J;have fx7:=kf5_ J
 have lx8:=kc6_ J;have fx8:=kf6_ J
 have r0:=Gr.refl vw3
 obtain ⟨d7_8,d8_7⟩:=J.out.ne 5 6 rfl rfl (by decide)
 go_wp2
 refine kO O ?_;clear O K
 clear r0 lx7 fx7 lx8 fx8 d7_8 d8_7
 refine fH (((((J.out).put2 5 0 rfl).put 5 2 _ rfl).put2 6 0 rfl).put 6 2 _ rfl) fun Wx4 I=>?_
 clear J
 refine wp_seq ?_
 have hd2:decide (r=0)=false:=decide_eq_false (by first|exact ok|exact HM2.out|exact HRN.out)
 have lx8:=kc6_ I
 refine ks3_ fun K O T Y=>?_
 refine tk3_ ?_
 refine nlS Y I fun vw4 J=>?_
 clear Y T I lx8
 go_wp2
 refine kF_ O ((J.out).er 6) fun Wx5 I=>?_;clear O K
 clear J
 clear hd2
 refine wp_cond_true (by rfl) ?_
 refine ks1_ fun K O T Y=>?_
 refine tk ?_
 refine nlS Y I fun vw5 J=>?_
 clear Y T I
 have lx2:=kc2_ J;have fx2:=kf2_ J
 have r0:=Gr.refl vw5
 go_wp2
 refine kO O ?_;clear O K
 clear r0 lx2 fx2
 refine fH ((((J.out).put2 2 0 rfl).put2 2 2 rfl).put 2 4 _ rfl) fun Wx6 I=>?_
 clear J
 refine wp_ret ?_
 try simp only [Exit.then,Exit.inBlock]
 have lx2:=kc2_ I
 have r0:=Gr.refl Wx6
 exact bodyPost_ret (v:=.tuple #[(.agg #[.int .u64 0,.string ⟨#[]⟩,.bool false,.int .u64 0,.string ⟨#[]⟩]),.int .i64 6]) (by simp [results,Tryz.results107,go_sem,lx2 _ r0]) rfl ⟨rfl,I.out.1⟩
theorem xH6 (R1 R2:Int) (M1 M2:Nat) (z:Int) (m:Nat) (w:World) (hz:crt R1 M1 R2 M2=z) (hm:crm M1 M2=m) (hk:(R2 - R1) % (egcd ((M1:Nat):Int) ((M2:Nat):Int)).1=0) (h1:0<M1) (h2:0<M2) (hw1:wl R1.natAbs≤100) (hw2:wl R2.natAbs≤100) (hw3:wl M1≤100) (hw4:wl M2≤100) :
  Calls Tryz.prog 107 #[.agg #[.int .u64 (lo R1.natAbs),.string (bg R1.natAbs),.bool (R1<0),.int .u64 (lo M1),.string (bg M1)],.agg #[.int .u64 (lo R2.natAbs),.string (bg R2.natAbs),.bool (R2<0),.int .u64 (lo M2),.string (bg M2)]] w fun e w'=>e=.returned (.tuple #[.agg #[.int .u64 (lo z.natAbs),.string (bg z.natAbs),.bool (z<0),.int .u64 (lo m),.string (bg m)],.int .i64 0])∧Below w.heap.size w w':=by
 have hg:=qQ4 (M2:=M2) h1
 have hp:=qv5 h1 h2
 rw [hm] at hp
 exact xf7 R1 R2 _ _ _ _ _ M1 M2 _ m _ _ _ z w (lh_ rfl) (lh_ rfl) (lh_ rfl) (lh_ om) (lh_ om) (lh_ rfl) (lh_ rfl) (lh_ hk) (lh_ om) (lh_ rfl) (lh_ hm) (lh_ hp) (lh_ rfl) (lh_ rfl) (lh_ rfl) (lh_ (by rw [← hm];exact hz)) hw1 hw2 hw3 hw4
theorem qW0 (R1 R2:Int) (M1 M2:Nat) (w:World) (hk:¬ (R2 - R1) % (egcd ((M1:Nat):Int) ((M2:Nat):Int)).1=0) (h1:0<M1) (h2:0<M2) (hw1:wl R1.natAbs≤100) (hw2:wl R2.natAbs≤100) (hw3:wl M1≤100) (hw4:wl M2≤100) :
  Calls Tryz.prog 107 #[.agg #[.int .u64 (lo R1.natAbs),.string (bg R1.natAbs),.bool (R1<0),.int .u64 (lo M1),.string (bg M1)],.agg #[.int .u64 (lo R2.natAbs),.string (bg R2.natAbs),.bool (R2<0),.int .u64 (lo M2),.string (bg M2)]] w fun e w'=>e=.returned (.tuple #[(.agg #[.int .u64 0,.string ⟨#[]⟩,.bool false,.int .u64 0,.string ⟨#[]⟩]),.int .i64 6])∧Below w.heap.size w w':=by
 have hg:=qQ4 (M2:=M2) h1
 exact xf6 R1 R2 _ _ _ _ _ _ M1 M2 w (lh_ rfl) (lh_ rfl) (lh_ rfl) (lh_ om) (lh_ om) (lh_ rfl) (lh_ rfl) (lh_ rfl) (lh_ om) (lh_ hk) hw1 hw2 hw3 hw4
end Go.Proofs.YtobojnodohjiaaaGreatDoor
