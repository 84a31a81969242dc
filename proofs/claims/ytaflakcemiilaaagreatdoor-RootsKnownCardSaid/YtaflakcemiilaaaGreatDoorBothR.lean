
/- RootsBoth: the law's walk. -/
import Derived.Test.YtaflakcemiilaaaGreatDoorRRot1
import Derived.Test.YtaflakcemiilaaaGreatDoorRRot3
set_option maxRecDepth 100000
set_option maxHeartbeats 16000000
set_option linter.unusedVariables false
set_option linter.unusedSimpArgs false
namespace Go.Proofs.YtaflakcemiilaaaGreatDoor
open Go.RowKit
attribute [local go_sem ↓] Go.wp_at_zero Go.wp_at_succ
attribute [local go_sem ↓] qd6 qa7 qf4 qk3 qe7
attribute [local go_sem] Instr.field asAgg
theorem qZ4 (n d:Int) (a:Rat) (p:Int) (z0:Rat) (w:World) (HA0:Hid (qv n d=a)) (hsa:sz a≤4) (hra:rz a≤10) (h1:-9223372036854775808≤n) (h2:n≤9223372036854775807) (h3:0≤d) (h4:d≤4294967295) (hp:p<0) (HZ0:Hid ((0:Rat)=z0)) (hz0:sz z0≤1) (hrz:rz z0≤1) (HT:Hid (Tab w)) :
  Calls Tryz.prog 4 #[(Value.agg #[.int .i64 n,.int .u32 d]),.int .i64 p] w fun e w'=>e=.returned (.bool true)∧Below w.heap.size w w':=by
 go_enter Tryz.func4,Tryz.ntmps4
 have I:=lh_ (hp0 w)
 refine kS fun K O=>?_
 refine wp_region_lit ?_
 go_wp2
 refine kF_ O ((I.out).aL (w.heap.size)) fun Wx0 J=>?_;clear O K
 clear I;have I:=J;clear J
 refine wp_seq ?_
 have hd1:¬ (40<p):=by first|exact ok|exact HAN0.out|exact HL.out|exact HH.out
 refine ks6_ fun K O T Y=>?_
 refine tk3_ ?_
 iterate 2 refine sk ?_
 refine tk ?_
 refine nlS Y I fun vw1 J=>?_
 clear Y T I
 go_wp2
 refine kO O ?_;clear O K
 have I:=J;clear J
 clear hd1
 refine wp_cond_false (by rfl) ?_
 refine wp_skip ?_
 show Code.wp _ _ _ _ _
 have HZ1:Hid (qv n d=a):=lh_ (HA0.out)
 have su1:sz a≤4:=by have e:=HZ1.out;first|omega|(rw [← e];exact qh0 n d om om om om)
 have lx0:=c0_ I
 refine ks7_ fun K O T Y=>?_
 refine tk ?_
 refine ck Tryz.call24 (fun w' hw=>qf9 n d a _ HZ1.out om om om om) ?_
 refine tk ?_
 refine ck Tryz.call23 (fun w' hw=>qN4 a z0 p _ om HZ0.out) ?_
 refine tk3_ ?_
 refine nlS Y I fun vw2 J=>?_
 clear Y T I lx0
 go_wp2
 refine kF_ O ((J.out).aL (vw2.heap.size)) fun Wx3 I=>?_;clear O K
 clear J
 generalize vw2.heap.size=gx2 at *
 have HZ2:Hid (qv n d=a):=lh_ (HA0.out)
 have su2:sz a≤4:=by have e:=HZ2.out;first|omega|(rw [← e];exact qh0 n d om om om om)
 have lx0:=c0_ I
 refine ks7_ fun K O T Y=>?_
 refine tk ?_
 refine ck Tryz.call24 (fun w' hw=>qf9 n d a _ HZ2.out om om om om) ?_
 refine tk ?_
 refine ck Tryz.call25 (fun w' hw=>qL9 a z0 p _ om HZ0.out) ?_
 refine tk3_ ?_
 refine nlS Y I fun vw3 J=>?_
 clear Y T I lx0
 go_wp2
 refine kF_ O ((J.out).aL (vw3.heap.size)) fun Wx4 I=>?_;clear O K
 clear J
 generalize vw3.heap.size=gx3 at *
 have HZ3:Hid (qv n d=a):=lh_ (HA0.out)
 have su3:rz a≤10:=by have e:=HZ3.out;first|omega|(rw [← e];exact qR3 n d om om om om)
 have lx0:=c0_ I
 refine kS fun K O=>?_
 have HG0:Hid (Gr Wx4 Wx4):=lh_ (Gr.refl _)
 refine sq8_ fun T Y=>?_
 refine tk ?_
 refine qa0 rfl (by rfl) Tryz.call27 (by rfl) (fun w' hw=>(qy3 n d a _ HZ3.out om om om om).mono ?_)
 rintro e vv4 ⟨⟨rv1,rv2,rfl,bx4,bx5⟩,hg0⟩
 obtain ⟨ao1,nn1,cc1,rfl⟩:=Rn.sl bx4
 obtain ⟨ao2,nn2,cc2,rfl⟩:=Rn.sl bx5
 refine ⟨_,rfl,hg0,?_⟩
 replace hg0:=Gr.trans hw hg0;clear hw
 replace HG0:=lh_ (HG0.out.trans hg0)
 have HGS:=lh_ hg0;clear hg0
 clear HGS
 have RN4:=lh_ bx4;clear bx4
 have RN5:=lh_ bx5;clear bx5
 clear lx0;have lx0:=fun w' (h:Gr _ w')=>c0_ I w' (HG0.out.trans h)
 simp only [Act.put,lA,lB,lC]
 refine tk ?_
 refine qa0 rfl (by rfl) Tryz.call26 (by rfl) (fun w' hw=>(qS8 a z0 p _ _ _ om HZ0.out (RN4.out.gr hw) (RN5.out.gr hw)).mono ?_)
 rintro e vv6 ⟨⟨rv3,rv4,rv5,rv6,rfl,bx6,bx7,bx8,bx9⟩,hg0⟩
 obtain ⟨ao3,nn3,cc3,rfl⟩:=Rn.sl bx6
 obtain ⟨ao4,nn4,cc4,rfl⟩:=Rn.sl bx7
 obtain ⟨ao5,nn5,cc5,rfl⟩:=Rn.sl bx8
 obtain ⟨ao6,nn6,cc6,rfl⟩:=Rn.sl bx9
 refine ⟨_,rfl,hg0,?_⟩
 replace hg0:=Gr.trans hw hg0;clear hw
 replace HG0:=lh_ (HG0.out.trans hg0)
 have HGS:=lh_ hg0;clear hg0
 replace RN4:=lh_ (RN4.out.gr HGS.out)
 replace RN5:=lh_ (RN5.out.gr HGS.out)
 clear HGS
 have RN6:=lh_ bx6;clear bx6
 have RN7:=lh_ bx7;clear bx7
 have RN8:=lh_ bx8;clear bx8
 have RN9:=lh_ bx9;clear bx9
 clear lx0;have lx0:=fun w' (h:Gr _ w')=>c0_ I w' (HG0.out.trans h)
 simp only [Act.put,lA,lB,lC]
 iterate 4 refine tk ?_
 refine qa1 (Y.out _ _ ?_)
 intro vw4 hg
 simp only [puts,Act.put,lA,lB,lC,lD,lE,↓reduceIte,Nat.reduceEqDiff]
 have J:=lh_ (((((((I.out.gr (HG0.out.trans hg)).ar (RN4.out.gr hg)).ar (RN5.out.gr hg)).ar (RN6.out.gr hg)).ar (RN7.out.gr hg)).ar (RN8.out.gr hg)).ar (RN9.out.gr hg))
 simp only [zq1_,zq2_,zq3_,zq4_,lF,lG] at J
 clear Y T I hg HG0 RN4 RN5 RN6 RN7 RN8 RN9 lx0
 go_wp2
 refine kF_ O ((((((J.out).aL (vw4.heap.size)).aL (vw4.heap.size+1)).er 4).er 3).er 0) fun Wx5 I=>?_;clear O K
 clear J
 generalize vw4.heap.size+1=gx11 at *
 generalize vw4.heap.size=gx10 at *
 have HB:=HPb I
 have lx2:=c0_ I
 have lx3:=c1_ I
 have lx10:=c6_ I
 have lx11:=c7_ I
 refine xc3 fun K O T Y=>?_
 refine tk2_ ?_
 refine ck Tryz.call28 (fun w' hw=>qi0 z0 _ _ _ om om (I.out.r 2 rfl hw) (I.out.r 3 rfl hw) (lh_ (HT.out.gr (Gr.trans HB.out hw)))) ?_
 refine tk3_ ?_
 refine ck Tryz.call28 (fun w' hw=>qi0 z0 _ _ _ om om (I.out.r 4 rfl hw) (I.out.r 5 rfl hw) (lh_ (HT.out.gr (Gr.trans HB.out hw)))) ?_
 iterate 12 refine tk ?_
 refine ck Tryz.call22 (fun w' hw=>qa6 _ (lh_ (HT.out.gr (Gr.trans HB.out hw)))) ?_
 refine tk2_ ?_
 refine nlS Y I fun vw5 J=>?_
 clear Y T I lx2 lx3 lx10 lx11 HB
 go_wp2
 refine kF_ O (((((((((J.out).er 7).er 6).er 5).er 4).er 3).er 2).er 1).er 0) fun Wx6 I=>?_;clear O K
 clear J
 refine wp_ret ?_
 try simp only [Exit.then,Exit.inBlock]
 exact bodyPost_ret (v:=.bool true) (by simp [results,Tryz.results4,go_sem]) rfl ⟨rfl,I.out.1⟩
theorem qT8 (n d:Int) (a:Rat) (p:Int) (z0:Rat) (w:World) (HA0:Hid (qv n d=a)) (hsa:sz a≤4) (hra:rz a≤10) (h1:-9223372036854775808≤n) (h2:n≤9223372036854775807) (h3:0≤d) (h4:d≤4294967295) (hp:100<p) (HZ0:Hid ((0:Rat)=z0)) (hz0:sz z0≤1) (hrz:rz z0≤1) (HT:Hid (Tab w)) :
  Calls Tryz.prog 4 #[(Value.agg #[.int .i64 n,.int .u32 d]),.int .i64 p] w fun e w'=>e=.returned (.bool true)∧Below w.heap.size w w':=by
 go_enter Tryz.func4,Tryz.ntmps4
 have I:=lh_ (hp0 w)
 refine kS fun K O=>?_
 refine wp_region_lit ?_
 go_wp2
 refine kF_ O ((I.out).aL (w.heap.size)) fun Wx0 J=>?_;clear O K
 clear I;have I:=J;clear J
 refine wp_seq ?_
 have hd1:40<p:=by first|exact ok|exact HAN0.out|exact HL.out|exact HH.out
 have hd2:¬ (p≤100):=by first|exact ok|exact HAN0.out|exact HL.out|exact HH.out
 refine ks6_ fun K O T Y=>?_
 iterate 6 refine tk ?_
 refine nlS Y I fun vw1 J=>?_
 clear Y T I
 go_wp2
 refine kO O ?_;clear O K
 have I:=J;clear J
 clear hd1 hd2
 refine wp_cond_false (by rfl) ?_
 refine wp_skip ?_
 show Code.wp _ _ _ _ _
 have HZ1:Hid (qv n d=a):=lh_ (HA0.out)
 have su1:sz a≤4:=by have e:=HZ1.out;first|omega|(rw [← e];exact qh0 n d om om om om)
 have lx0:=c0_ I
 refine ks7_ fun K O T Y=>?_
 refine tk ?_
 refine ck Tryz.call24 (fun w' hw=>qf9 n d a _ HZ1.out om om om om) ?_
 refine tk ?_
 refine ck Tryz.call23 (fun w' hw=>qG7 a z0 p _ om HZ0.out) ?_
 refine tk3_ ?_
 refine nlS Y I fun vw2 J=>?_
 clear Y T I lx0
 go_wp2
 refine kF_ O ((J.out).aL (vw2.heap.size)) fun Wx3 I=>?_;clear O K
 clear J
 generalize vw2.heap.size=gx2 at *
 have HZ2:Hid (qv n d=a):=lh_ (HA0.out)
 have su2:sz a≤4:=by have e:=HZ2.out;first|omega|(rw [← e];exact qh0 n d om om om om)
 have lx0:=c0_ I
 refine ks7_ fun K O T Y=>?_
 refine tk ?_
 refine ck Tryz.call24 (fun w' hw=>qf9 n d a _ HZ2.out om om om om) ?_
 refine tk ?_
 refine ck Tryz.call25 (fun w' hw=>qF5 a z0 p _ om HZ0.out) ?_
 refine tk3_ ?_
 refine nlS Y I fun vw3 J=>?_
 clear Y T I lx0
 go_wp2
 refine kF_ O ((J.out).aL (vw3.heap.size)) fun Wx4 I=>?_;clear O K
 clear J
 generalize vw3.heap.size=gx3 at *
 have HZ3:Hid (qv n d=a):=lh_ (HA0.out)
 have su3:rz a≤10:=by have e:=HZ3.out;first|omega|(rw [← e];exact qR3 n d om om om om)
 have lx0:=c0_ I
 refine kS fun K O=>?_
 have HG0:Hid (Gr Wx4 Wx4):=lh_ (Gr.refl _)
 refine sq8_ fun T Y=>?_
 refine tk ?_
 refine qa0 rfl (by rfl) Tryz.call27 (by rfl) (fun w' hw=>(qy3 n d a _ HZ3.out om om om om).mono ?_)
 rintro e vv4 ⟨⟨rv1,rv2,rfl,bx4,bx5⟩,hg0⟩
 obtain ⟨ao1,nn1,cc1,rfl⟩:=Rn.sl bx4
 obtain ⟨ao2,nn2,cc2,rfl⟩:=Rn.sl bx5
 refine ⟨_,rfl,hg0,?_⟩
 replace hg0:=Gr.trans hw hg0;clear hw
 replace HG0:=lh_ (HG0.out.trans hg0)
 have HGS:=lh_ hg0;clear hg0
 clear HGS
 have RN4:=lh_ bx4;clear bx4
 have RN5:=lh_ bx5;clear bx5
 clear lx0;have lx0:=fun w' (h:Gr _ w')=>c0_ I w' (HG0.out.trans h)
 simp only [Act.put,lA,lB,lC]
 refine tk ?_
 refine qa0 rfl (by rfl) Tryz.call26 (by rfl) (fun w' hw=>(qK8 a z0 p _ _ _ om HZ0.out (RN4.out.gr hw) (RN5.out.gr hw)).mono ?_)
 rintro e vv6 ⟨⟨rv3,rv4,rv5,rv6,rfl,bx6,bx7,bx8,bx9⟩,hg0⟩
 obtain ⟨ao3,nn3,cc3,rfl⟩:=Rn.sl bx6
 obtain ⟨ao4,nn4,cc4,rfl⟩:=Rn.sl bx7
 obtain ⟨ao5,nn5,cc5,rfl⟩:=Rn.sl bx8
 obtain ⟨ao6,nn6,cc6,rfl⟩:=Rn.sl bx9
 refine ⟨_,rfl,hg0,?_⟩
 replace hg0:=Gr.trans hw hg0;clear hw
 replace HG0:=lh_ (HG0.out.trans hg0)
 have HGS:=lh_ hg0;clear hg0
 replace RN4:=lh_ (RN4.out.gr HGS.out)
 replace RN5:=lh_ (RN5.out.gr HGS.out)
 clear HGS
 have RN6:=lh_ bx6;clear bx6
 have RN7:=lh_ bx7;clear bx7
 have RN8:=lh_ bx8;clear bx8
 have RN9:=lh_ bx9;clear bx9
 clear lx0;have lx0:=fun w' (h:Gr _ w')=>c0_ I w' (HG0.out.trans h)
 simp only [Act.put,lA,lB,lC]
 iterate 4 refine tk ?_
 refine qa1 (Y.out _ _ ?_)
 intro vw4 hg
 simp only [puts,Act.put,lA,lB,lC,lD,lE,↓reduceIte,Nat.reduceEqDiff]
 have J:=lh_ (((((((I.out.gr (HG0.out.trans hg)).ar (RN4.out.gr hg)).ar (RN5.out.gr hg)).ar (RN6.out.gr hg)).ar (RN7.out.gr hg)).ar (RN8.out.gr hg)).ar (RN9.out.gr hg))
 simp only [zq1_,zq2_,zq3_,zq4_,lF,lG] at J
 clear Y T I hg HG0 RN4 RN5 RN6 RN7 RN8 RN9 lx0
 go_wp2
 refine kF_ O ((((((J.out).aL (vw4.heap.size)).aL (vw4.heap.size+1)).er 4).er 3).er 0) fun Wx5 I=>?_;clear O K
 clear J
 generalize vw4.heap.size+1=gx11 at *
 generalize vw4.heap.size=gx10 at *
 have HB:=HPb I
 have lx2:=c0_ I
 have lx3:=c1_ I
 have lx10:=c6_ I
 have lx11:=c7_ I
 refine xc3 fun K O T Y=>?_
 refine tk2_ ?_
 refine ck Tryz.call28 (fun w' hw=>qi0 z0 _ _ _ om om (I.out.r 2 rfl hw) (I.out.r 3 rfl hw) (lh_ (HT.out.gr (Gr.trans HB.out hw)))) ?_
 refine tk3_ ?_
 refine ck Tryz.call28 (fun w' hw=>qi0 z0 _ _ _ om om (I.out.r 4 rfl hw) (I.out.r 5 rfl hw) (lh_ (HT.out.gr (Gr.trans HB.out hw)))) ?_
 iterate 12 refine tk ?_
 refine ck Tryz.call22 (fun w' hw=>qa6 _ (lh_ (HT.out.gr (Gr.trans HB.out hw)))) ?_
 refine tk2_ ?_
 refine nlS Y I fun vw5 J=>?_
 clear Y T I lx2 lx3 lx10 lx11 HB
 go_wp2
 refine kF_ O (((((((((J.out).er 7).er 6).er 5).er 4).er 3).er 2).er 1).er 0) fun Wx6 I=>?_;clear O K
 clear J
 refine wp_ret ?_
 try simp only [Exit.then,Exit.inBlock]
 exact bodyPost_ret (v:=.bool true) (by simp [results,Tryz.results4,go_sem]) rfl ⟨rfl,I.out.1⟩
theorem qW_ (n d:Int) (a:Rat) (p:Int) (w:World) (HA0:Hid (qv n d=a)) (hsa:sz a≤4) (hra:rz a≤10) (h1:-9223372036854775808≤n) (h2:n≤9223372036854775807) (h3:0≤d) (h4:d≤4294967295) (hp:40<p) (hp2:p≤100) (HT:Hid (Tab w)) :
  Calls Tryz.prog 4 #[(Value.agg #[.int .i64 n,.int .u32 d]),.int .i64 p] w fun e w'=>e=.returned (.bool true)∧Below w.heap.size w w':=by
 go_enter Tryz.func4,Tryz.ntmps4
 have I:=lh_ (hp0 w)
 refine kS fun K O=>?_
 refine wp_region_lit ?_
 go_wp2
 refine kF_ O ((I.out).aL (w.heap.size)) fun Wx0 J=>?_;clear O K
 clear I;have I:=J;clear J
 refine wp_seq ?_
 have hd1:40<p:=by first|exact ok|exact HAN0.out|exact HL.out|exact HH.out
 have hd2:p≤100:=by first|exact ok|exact HAN0.out|exact HL.out|exact HH.out
 refine ks6_ fun K O T Y=>?_
 iterate 6 refine tk ?_
 refine nlS Y I fun vw1 J=>?_
 clear Y T I
 go_wp2
 refine kO O ?_;clear O K
 have I:=J;clear J
 clear hd1 hd2
 refine wp_cond_true (by rfl) ?_
 have HB:=HPb I
 refine ks2_ fun K O T Y=>?_
 refine ck Tryz.call22 (fun w' hw=>qa6 _ (lh_ (HT.out.gr (Gr.trans HB.out hw)))) ?_
 refine tk ?_
 refine nlS Y I fun vw2 J=>?_
 clear Y T I HB
 go_wp2
 refine kO O ?_;clear O K
 have I:=J;clear J
 refine wp_ret ?_
 try simp only [Exit.then,Exit.inBlock]
 exact bodyPost_ret (v:=.bool true) (by simp [results,Tryz.results4,go_sem]) rfl ⟨rfl,I.out.1⟩
theorem qU4 (n d:Int) (a:Rat) (k:Nat) (z0:Rat) (w:World) (HA0:Hid (qv n d=a)) (hsa:sz a≤4) (hra:rz a≤10) (h1:-9223372036854775808≤n) (h2:n≤9223372036854775807) (h3:0≤d) (h4:d≤4294967295) (hk:k≤40) (HAN0:Hid (a<0)) (HZ0:Hid ((0:Rat)=z0)) (hz0:sz z0≤1) (hrz:rz z0≤1) (HT:Hid (Tab w)) :
  Calls Tryz.prog 4 #[(Value.agg #[.int .i64 n,.int .u32 d]),.int .i64 (((k:Nat):Int))] w fun e w'=>e=.returned (.bool true)∧Below w.heap.size w w':=by
 go_enter Tryz.func4,Tryz.ntmps4
 have I:=lh_ (hp0 w)
 refine kS fun K O=>?_
 refine wp_region_lit ?_
 go_wp2
 refine kF_ O ((I.out).aL (w.heap.size)) fun Wx0 J=>?_;clear O K
 clear I;have I:=J;clear J
 refine wp_seq ?_
 have hd1:¬ (40<(((k:Nat):Int))):=by first|exact ok|exact HAN0.out|exact HL.out|exact HH.out
 refine ks6_ fun K O T Y=>?_
 refine tk3_ ?_
 iterate 2 refine sk ?_
 refine tk ?_
 refine nlS Y I fun vw1 J=>?_
 clear Y T I
 go_wp2
 refine kO O ?_;clear O K
 have I:=J;clear J
 clear hd1
 refine wp_cond_false (by rfl) ?_
 refine wp_skip ?_
 show Code.wp _ _ _ _ _
 have HZ1:Hid (qv n d=a):=lh_ (HA0.out)
 have su1:sz a≤4:=by have e:=HZ1.out;first|omega|(rw [← e];exact qh0 n d om om om om)
 have lx0:=c0_ I
 refine ks7_ fun K O T Y=>?_
 refine tk ?_
 refine ck Tryz.call24 (fun w' hw=>qf9 n d a _ HZ1.out om om om om) ?_
 refine tk ?_
 refine ck Tryz.call23 (fun w' hw=>qD_ a z0 k _ (by first|exact ok|exact HAN0.out|exact HL.out|exact HH.out) om HZ0.out) ?_
 refine tk3_ ?_
 refine nlS Y I fun vw2 J=>?_
 clear Y T I lx0
 go_wp2
 refine kF_ O ((J.out).aL (vw2.heap.size)) fun Wx3 I=>?_;clear O K
 clear J
 generalize vw2.heap.size=gx2 at *
 have HZ2:Hid (qv n d=a):=lh_ (HA0.out)
 have su2:sz a≤4:=by have e:=HZ2.out;first|omega|(rw [← e];exact qh0 n d om om om om)
 have lx0:=c0_ I
 refine ks7_ fun K O T Y=>?_
 refine tk ?_
 refine ck Tryz.call24 (fun w' hw=>qf9 n d a _ HZ2.out om om om om) ?_
 refine tk ?_
 refine ck Tryz.call25 (fun w' hw=>qD6 a z0 k _ (by first|exact ok|exact HAN0.out|exact HL.out|exact HH.out) om HZ0.out) ?_
 refine tk3_ ?_
 refine nlS Y I fun vw3 J=>?_
 clear Y T I lx0
 go_wp2
 refine kF_ O ((J.out).aL (vw3.heap.size)) fun Wx4 I=>?_;clear O K
 clear J
 generalize vw3.heap.size=gx3 at *
 have HZ3:Hid (qv n d=a):=lh_ (HA0.out)
 have su3:rz a≤10:=by have e:=HZ3.out;first|omega|(rw [← e];exact qR3 n d om om om om)
 have lx0:=c0_ I
 refine kS fun K O=>?_
 have HG0:Hid (Gr Wx4 Wx4):=lh_ (Gr.refl _)
 refine sq8_ fun T Y=>?_
 refine tk ?_
 refine qa0 rfl (by rfl) Tryz.call27 (by rfl) (fun w' hw=>(qy3 n d a _ HZ3.out om om om om).mono ?_)
 rintro e vv4 ⟨⟨rv1,rv2,rfl,bx4,bx5⟩,hg0⟩
 obtain ⟨ao1,nn1,cc1,rfl⟩:=Rn.sl bx4
 obtain ⟨ao2,nn2,cc2,rfl⟩:=Rn.sl bx5
 refine ⟨_,rfl,hg0,?_⟩
 replace hg0:=Gr.trans hw hg0;clear hw
 replace HG0:=lh_ (HG0.out.trans hg0)
 have HGS:=lh_ hg0;clear hg0
 clear HGS
 have RN4:=lh_ bx4;clear bx4
 have RN5:=lh_ bx5;clear bx5
 clear lx0;have lx0:=fun w' (h:Gr _ w')=>c0_ I w' (HG0.out.trans h)
 simp only [Act.put,lA,lB,lC]
 refine tk ?_
 refine qa0 rfl (by rfl) Tryz.call26 (by rfl) (fun w' hw=>(qN2 a z0 k _ _ _ om (by first|exact ok|exact HAN0.out|exact HL.out|exact HH.out) HZ0.out (RN4.out.gr hw) (RN5.out.gr hw)).mono ?_)
 rintro e vv6 ⟨⟨rv3,rv4,rv5,rv6,rfl,bx6,bx7,bx8,bx9⟩,hg0⟩
 obtain ⟨ao3,nn3,cc3,rfl⟩:=Rn.sl bx6
 obtain ⟨ao4,nn4,cc4,rfl⟩:=Rn.sl bx7
 obtain ⟨ao5,nn5,cc5,rfl⟩:=Rn.sl bx8
 obtain ⟨ao6,nn6,cc6,rfl⟩:=Rn.sl bx9
 refine ⟨_,rfl,hg0,?_⟩
 replace hg0:=Gr.trans hw hg0;clear hw
 replace HG0:=lh_ (HG0.out.trans hg0)
 have HGS:=lh_ hg0;clear hg0
 replace RN4:=lh_ (RN4.out.gr HGS.out)
 replace RN5:=lh_ (RN5.out.gr HGS.out)
 clear HGS
 have RN6:=lh_ bx6;clear bx6
 have RN7:=lh_ bx7;clear bx7
 have RN8:=lh_ bx8;clear bx8
 have RN9:=lh_ bx9;clear bx9
 clear lx0;have lx0:=fun w' (h:Gr _ w')=>c0_ I w' (HG0.out.trans h)
 simp only [Act.put,lA,lB,lC]
 iterate 4 refine tk ?_
 refine qa1 (Y.out _ _ ?_)
 intro vw4 hg
 simp only [puts,Act.put,lA,lB,lC,lD,lE,↓reduceIte,Nat.reduceEqDiff]
 have J:=lh_ (((((((I.out.gr (HG0.out.trans hg)).ar (RN4.out.gr hg)).ar (RN5.out.gr hg)).ar (RN6.out.gr hg)).ar (RN7.out.gr hg)).ar (RN8.out.gr hg)).ar (RN9.out.gr hg))
 simp only [zq1_,zq2_,zq3_,zq4_,lF,lG] at J
 clear Y T I hg HG0 RN4 RN5 RN6 RN7 RN8 RN9 lx0
 go_wp2
 refine kF_ O ((((((J.out).aL (vw4.heap.size)).aL (vw4.heap.size+1)).er 4).er 3).er 0) fun Wx5 I=>?_;clear O K
 clear J
 generalize vw4.heap.size+1=gx11 at *
 generalize vw4.heap.size=gx10 at *
 have HB:=HPb I
 have lx2:=c0_ I
 have lx3:=c1_ I
 have lx10:=c6_ I
 have lx11:=c7_ I
 refine xc3 fun K O T Y=>?_
 refine tk2_ ?_
 refine ck Tryz.call28 (fun w' hw=>qi0 z0 _ _ _ om om (I.out.r 2 rfl hw) (I.out.r 3 rfl hw) (lh_ (HT.out.gr (Gr.trans HB.out hw)))) ?_
 refine tk3_ ?_
 refine ck Tryz.call28 (fun w' hw=>qi0 z0 _ _ _ om om (I.out.r 4 rfl hw) (I.out.r 5 rfl hw) (lh_ (HT.out.gr (Gr.trans HB.out hw)))) ?_
 iterate 12 refine tk ?_
 refine ck Tryz.call22 (fun w' hw=>qa6 _ (lh_ (HT.out.gr (Gr.trans HB.out hw)))) ?_
 refine tk2_ ?_
 refine nlS Y I fun vw5 J=>?_
 clear Y T I lx2 lx3 lx10 lx11 HB
 go_wp2
 refine kF_ O (((((((((J.out).er 7).er 6).er 5).er 4).er 3).er 2).er 1).er 0) fun Wx6 I=>?_;clear O K
 clear J
 refine wp_ret ?_
 try simp only [Exit.then,Exit.inBlock]
 exact bodyPost_ret (v:=.bool true) (by simp [results,Tryz.results4,go_sem]) rfl ⟨rfl,I.out.1⟩
theorem xg9 (n d:Int) (a:Rat) (k:Nat) (l h:Rat) (w:World) (HA0:Hid (qv n d=a)) (hsa:sz a≤4) (hra:rz a≤10) (h1:-9223372036854775808≤n) (h2:n≤9223372036854775807) (h3:0≤d) (h4:d≤4294967295) (hk:k≤40) (HAN0:Hid (0≤a)) (HAN:Hid (a<tq 32*tq 32)) (HL:Hid (rlo a k=l)) (HH:Hid (rhi a k=h)) (hsl:sz l≤20) (hsh:sz h≤20) (hrl:rz l≤60) (hrh:rz h≤60) (HT:Hid (Tab w)) :
  Calls Tryz.prog 4 #[(Value.agg #[.int .i64 n,.int .u32 d]),.int .i64 (((k:Nat):Int))] w fun e w'=>e=.returned (.bool true)∧Below w.heap.size w w':=by
 go_enter Tryz.func4,Tryz.ntmps4
 have I:=lh_ (hp0 w)
 refine kS fun K O=>?_
 refine wp_region_lit ?_
 go_wp2
 refine kF_ O ((I.out).aL (w.heap.size)) fun Wx0 J=>?_;clear O K
 clear I;have I:=J;clear J
 refine wp_seq ?_
 have hd1:¬ (40<(((k:Nat):Int))):=by first|exact ok|exact HAN0.out|exact HL.out|exact HH.out
 refine ks6_ fun K O T Y=>?_
 refine tk3_ ?_
 iterate 2 refine sk ?_
 refine tk ?_
 refine nlS Y I fun vw1 J=>?_
 clear Y T I
 go_wp2
 refine kO O ?_;clear O K
 have I:=J;clear J
 clear hd1
 refine wp_cond_false (by rfl) ?_
 refine wp_skip ?_
 show Code.wp _ _ _ _ _
 have HZ1:Hid (qv n d=a):=lh_ (HA0.out)
 have su1:sz a≤4:=by have e:=HZ1.out;first|omega|(rw [← e];exact qh0 n d om om om om)
 have HZ2:Hid (rlo a k=l):=lh_ (by first|exact ok|exact HAN0.out|exact HL.out|exact HH.out)
 have su2:sz l≤14:=by have e:=HZ2.out;first|omega|(rw [← e];exact Nat.le_trans (qd2 om om) om)
 have lx0:=c0_ I
 refine ks7_ fun K O T Y=>?_
 refine tk ?_
 refine ck Tryz.call24 (fun w' hw=>qf9 n d a _ HZ1.out om om om om) ?_
 refine tk ?_
 refine ck Tryz.call23 (fun w' hw=>qb1 a l k _ (lh_ (by first|exact ok|exact HAN0.out|exact HL.out|exact HH.out)) (lh_ HZ2.out) om om) ?_
 refine tk3_ ?_
 refine nlS Y I fun vw2 J=>?_
 clear Y T I lx0
 go_wp2
 refine kF_ O ((J.out).aL (vw2.heap.size)) fun Wx3 I=>?_;clear O K
 clear J
 generalize vw2.heap.size=gx2 at *
 have HZ3:Hid (qv n d=a):=lh_ (HA0.out)
 have su3:sz a≤4:=by have e:=HZ3.out;first|omega|(rw [← e];exact qh0 n d om om om om)
 have HZ4:Hid (rhi a k=h):=lh_ (by first|exact ok|exact HAN0.out|exact HL.out|exact HH.out)
 have su4:sz h≤14:=by have e:=HZ4.out;first|omega|(rw [← e];exact Nat.le_trans (qd8 om om) om)
 have lx0:=c0_ I
 refine ks7_ fun K O T Y=>?_
 refine tk ?_
 refine ck Tryz.call24 (fun w' hw=>qf9 n d a _ HZ3.out om om om om) ?_
 refine tk ?_
 refine ck Tryz.call25 (fun w' hw=>qb6 a h k _ (lh_ (by first|exact ok|exact HAN0.out|exact HL.out|exact HH.out)) (lh_ HZ4.out) om om) ?_
 refine tk3_ ?_
 refine nlS Y I fun vw3 J=>?_
 clear Y T I lx0
 go_wp2
 refine kF_ O ((J.out).aL (vw3.heap.size)) fun Wx4 I=>?_;clear O K
 clear J
 generalize vw3.heap.size=gx3 at *
 have HZ5:Hid (qv n d=a):=lh_ (HA0.out)
 have su5:rz a≤10:=by have e:=HZ5.out;first|omega|(rw [← e];exact qR3 n d om om om om)
 have HZ6:Hid (rlo a k=l):=lh_ (by first|exact ok|exact HAN0.out|exact HL.out|exact HH.out)
 have su6:rz l≤100:=by have e:=HZ6.out;first|omega|(rw [← e];omega)
 have HZ7:Hid (rhi a k=h):=lh_ (by first|exact ok|exact HAN0.out|exact HL.out|exact HH.out)
 have su7:rz h≤100:=by have e:=HZ7.out;first|omega|(rw [← e];omega)
 have lx0:=c0_ I
 refine kS fun K O=>?_
 have HG0:Hid (Gr Wx4 Wx4):=lh_ (Gr.refl _)
 refine sq8_ fun T Y=>?_
 refine tk ?_
 refine qa0 rfl (by rfl) Tryz.call27 (by rfl) (fun w' hw=>(qy3 n d a _ HZ5.out om om om om).mono ?_)
 rintro e vv4 ⟨⟨rv1,rv2,rfl,bx4,bx5⟩,hg0⟩
 obtain ⟨ao1,nn1,cc1,rfl⟩:=Rn.sl bx4
 obtain ⟨ao2,nn2,cc2,rfl⟩:=Rn.sl bx5
 refine ⟨_,rfl,hg0,?_⟩
 replace hg0:=Gr.trans hw hg0;clear hw
 replace HG0:=lh_ (HG0.out.trans hg0)
 have HGS:=lh_ hg0;clear hg0
 clear HGS
 have RN4:=lh_ bx4;clear bx4
 have RN5:=lh_ bx5;clear bx5
 clear lx0;have lx0:=fun w' (h:Gr _ w')=>c0_ I w' (HG0.out.trans h)
 simp only [Act.put,lA,lB,lC]
 refine tk ?_
 refine qa0 rfl (by rfl) Tryz.call26 (by rfl) (fun w' hw=>(xE1 a l h k 32 _ _ _ (by first|exact ok|exact HAN0.out|exact HL.out|exact HH.out) HAN.out (by decide) HZ6.out HZ7.out om om om (RN4.out.gr hw) (RN5.out.gr hw)).mono ?_)
 rintro e vv6 ⟨⟨rv3,rv4,rv5,rv6,rfl,bx6,bx7,bx8,bx9⟩,hg0⟩
 obtain ⟨ao3,nn3,cc3,rfl⟩:=Rn.sl bx6
 obtain ⟨ao4,nn4,cc4,rfl⟩:=Rn.sl bx7
 obtain ⟨ao5,nn5,cc5,rfl⟩:=Rn.sl bx8
 obtain ⟨ao6,nn6,cc6,rfl⟩:=Rn.sl bx9
 refine ⟨_,rfl,hg0,?_⟩
 replace hg0:=Gr.trans hw hg0;clear hw
 replace HG0:=lh_ (HG0.out.trans hg0)
 have HGS:=lh_ hg0;clear hg0
 replace RN4:=lh_ (RN4.out.gr HGS.out)
 replace RN5:=lh_ (RN5.out.gr HGS.out)
 clear HGS
 have RN6:=lh_ bx6;clear bx6
 have RN7:=lh_ bx7;clear bx7
 have RN8:=lh_ bx8;clear bx8
 have RN9:=lh_ bx9;clear bx9
 clear lx0;have lx0:=fun w' (h:Gr _ w')=>c0_ I w' (HG0.out.trans h)
 simp only [Act.put,lA,lB,lC]
 iterate 4 refine tk ?_
 refine qa1 (Y.out _ _ ?_)
 intro vw4 hg
 simp only [puts,Act.put,lA,lB,lC,lD,lE,↓reduceIte,Nat.reduceEqDiff]
 have J:=lh_ (((((((I.out.gr (HG0.out.trans hg)).ar (RN4.out.gr hg)).ar (RN5.out.gr hg)).ar (RN6.out.gr hg)).ar (RN7.out.gr hg)).ar (RN8.out.gr hg)).ar (RN9.out.gr hg))
 simp only [zq1_,zq2_,zq3_,zq4_,lF,lG] at J
 clear Y T I hg HG0 RN4 RN5 RN6 RN7 RN8 RN9 lx0
 go_wp2
 refine kF_ O ((((((J.out).aL (vw4.heap.size)).aL (vw4.heap.size+1)).er 4).er 3).er 0) fun Wx5 I=>?_;clear O K
 clear J
 generalize vw4.heap.size+1=gx11 at *
 generalize vw4.heap.size=gx10 at *
 have HB:=HPb I
 have lx2:=c0_ I
 have lx3:=c1_ I
 have lx10:=c6_ I
 have lx11:=c7_ I
 refine xc3 fun K O T Y=>?_
 refine tk2_ ?_
 refine ck Tryz.call28 (fun w' hw=>qi0 l _ _ _ om om (I.out.r 2 rfl hw) (I.out.r 3 rfl hw) (lh_ (HT.out.gr (Gr.trans HB.out hw)))) ?_
 refine tk3_ ?_
 refine ck Tryz.call28 (fun w' hw=>qi0 h _ _ _ om om (I.out.r 4 rfl hw) (I.out.r 5 rfl hw) (lh_ (HT.out.gr (Gr.trans HB.out hw)))) ?_
 iterate 12 refine tk ?_
 refine ck Tryz.call22 (fun w' hw=>qa6 _ (lh_ (HT.out.gr (Gr.trans HB.out hw)))) ?_
 refine tk2_ ?_
 refine nlS Y I fun vw5 J=>?_
 clear Y T I lx2 lx3 lx10 lx11 HB
 go_wp2
 refine kF_ O (((((((((J.out).er 7).er 6).er 5).er 4).er 3).er 2).er 1).er 0) fun Wx6 I=>?_;clear O K
 clear J
 refine wp_ret ?_
 try simp only [Exit.then,Exit.inBlock]
 exact bodyPost_ret (v:=.bool true) (by simp [results,Tryz.results4,go_sem]) rfl ⟨rfl,I.out.1⟩
theorem qz5 (n d p:Int) (w:World) (h1:-9223372036854775808≤n) (h2:n≤9223372036854775807) (h3:0≤d) (h4:d≤4294967295) (HT:Hid (Tab w)) :
  Calls Tryz.prog 4 #[.agg #[.int .i64 n,.int .u32 d],.int .i64 p] w fun e w'=>e=.returned (.bool true)∧Below w.heap.size w w':=by
 have hs:=qh0 n d h1 h2 h3 h4
 have hr:=qR3 n d h1 h2 h3 h4
 have hN:=xF6 n d h2 h3
 have z1:sz (0:Rat)≤1:=qd5 (qa4.2 (by decide +kernel)) (qa4.2 (by decide +kernel))
 have z2:rz (0:Rat)≤1:=qv_ (qg6.2 (by decide +kernel)) (qg6.2 (by decide +kernel))
 by_cases c1:p<0
 ·exact qZ4 n d _ p _ w (lh_ rfl) hs hr h1 h2 h3 h4 c1 (lh_ rfl) z1 z2 HT
 ·by_cases c2:100<p
  ·exact qT8 n d _ p _ w (lh_ rfl) hs hr h1 h2 h3 h4 c2 (lh_ rfl) z1 z2 HT
  ·by_cases c3:40<p
   ·exact qW_ n d _ p w (lh_ rfl) hs hr h1 h2 h3 h4 c3 om HT
   ·obtain ⟨k,rfl⟩:∃ k:Nat,p=(k:Int):=⟨p.toNat,by omega⟩
    by_cases c4:qv n d<0
    ·exact qU4 n d _ k _ w (lh_ rfl) hs hr h1 h2 h3 h4 om (lh_ c4) (lh_ rfl) z1 z2 HT
    ·have e1:=qd2 (k:=k) om hs
     have e2:=qd8 (k:=k) om hs
     have e3:=xB4 (k:=k) om hs
     have e4:=xw_ (k:=k) om hs
     exact xg9 n d _ k _ _ w (lh_ rfl) hs hr h1 h2 h3 h4 om (lh_ (by grind)) (lh_ hN) (lh_ rfl) (lh_ rfl) om om om om HT
end Go.Proofs.YtaflakcemiilaaaGreatDoor
