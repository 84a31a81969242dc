
/- gussetlaw03.works: the examples of the chapter. -/
import Derived.Test.YtobojnodohjiaaaGreatDoorGreatP
import Derived.Test.YtobojnodohjiaaaGreatDoorPV
import Derived.Test.YtobojnodohjiaaaGreatDoorPW
import Derived.Test.YtobojnodohjiaaaGreatDoorHp2
set_option maxRecDepth 100000
set_option maxHeartbeats 16000000
set_option linter.unusedVariables false
set_option linter.unusedSimpArgs false
namespace Go.Proofs.YtobojnodohjiaaaGreatDoor
open Go.RowKit
attribute [local go_sem ↓] Go.wp_at_zero Go.wp_at_succ
attribute [local go_sem ↓] eq_nat eq_nat_zero eq_int eq_frac eq_frac_zero
attribute [local go_sem] Instr.field asAgg
theorem worksq_any (w:World) (HT:Hid (Tab w)) :
  CB 62 #[] w (.bool true):=by
 have hw1:IntKind.i64.wrap 1=1:=by decide
 have hw2:IntKind.i64.wrap 2=2:=by decide
 have hw3:IntKind.i64.wrap 3=3:=by decide
 have hw4:IntKind.i64.wrap 4=4:=by decide
 have hw5:IntKind.i64.wrap 5=5:=by decide
 have hw6:IntKind.i64.wrap 6=6:=by decide
 have hw7:IntKind.i64.wrap 7=7:=by decide
 go_enter Tryz.func62,Tryz.ntmps62
 have I:=lh_ (hp0 w)
 refine kSl fun K O=>?_;go_wp2
 refine kF_ O (I.out) fun Wx0 J=>?_;clear O K
 clear I;have I:=J;clear J
 have HZ1:Hid (((6:Int):Rat) / ((-4:Int):Rat)=(-3/2:Rat)):=lh_ (by decide +kernel)
 have su1:sz ((-3/2:Rat))≤4:=sz_of (wl_le.2 (by decide +kernel)) (wl_le.2 (by decide +kernel))
 have HZ2:Hid (((0:Int):Rat) / ((-5:Int):Rat)=(0:Rat)):=lh_ (by decide +kernel)
 have su2:sz ((0:Rat))≤4:=sz_of (wl_le.2 (by decide +kernel)) (wl_le.2 (by decide +kernel))
 refine ks2_ fun K O T Y=>?_
 refine ck Tryz.call159 (fun w' hw=>qf7 (6) (-4) (-3/2:Rat) _ (lh_ HZ1.out) (by decide) om om om om) ?_
 refine ck Tryz.call159 (fun w' hw=>qf7 (0) (-5) (0:Rat) _ (lh_ HZ2.out) (by decide) om om om om) ?_
 refine nlS Y I fun vw1 J=>?_
 clear Y T I
 go_wp2
 refine kF_ O (((J.out).aL (vw1.heap.size)).aL (vw1.heap.size+1)) fun Wx1 I=>?_;clear O K
 clear J
 generalize vw1.heap.size+1=gx2 at *
 generalize vw1.heap.size=gx1 at *
 refine qb2 fun K O T Y=>?_
 refine ck Tryz.call104 (fun w' hw=>qH9 (1) (0) _ ok om om) ?_
 refine tk3_ ?_
 refine nlS Y I fun vw2 J=>?_
 clear Y T I
 go_wp2
 refine kF_ O (((J.out).aL (vw2.heap.size)).er 2) fun Wx2 I=>?_;clear O K
 clear J
 generalize vw2.heap.size=gx3 at *
 have HZ3:Hid (((-9223372036854775808:Int):Rat) / ((-9223372036854775808:Int):Rat)=(1:Rat)):=lh_ (by decide +kernel)
 have su3:sz ((1:Rat))≤4:=sz_of (wl_le.2 (by decide +kernel)) (wl_le.2 (by decide +kernel))
 refine ks1_ fun K O T Y=>?_
 refine ck Tryz.call159 (fun w' hw=>qf7 (-9223372036854775808) (-9223372036854775808) (1:Rat) _ (lh_ HZ3.out) (by decide) om om om om) ?_
 refine nlS Y I fun vw3 J=>?_
 clear Y T I
 go_wp2
 refine kF_ O ((J.out).aL (vw3.heap.size)) fun Wx3 I=>?_;clear O K
 clear J
 generalize vw3.heap.size=gx4 at *
 have HZ4:Hid (((1:Int):Rat) / ((2:Int):Rat)=(1/2:Rat)):=lh_ (by decide +kernel)
 have su4:sz ((1/2:Rat))≤4:=sz_of (wl_le.2 (by decide +kernel)) (wl_le.2 (by decide +kernel))
 have HZ5:Hid (((-1:Int):Rat) / ((4:Int):Rat)=(-1/4:Rat)):=lh_ (by decide +kernel)
 have su5:sz ((-1/4:Rat))≤4:=sz_of (wl_le.2 (by decide +kernel)) (wl_le.2 (by decide +kernel))
 have HZ6:Hid ((1/2:Rat) / (-1/4:Rat)=(-2:Rat)):=lh_ (by decide +kernel)
 have su6:sz ((-2:Rat))≤8:=sz_of (wl_le.2 (by decide +kernel)) (wl_le.2 (by decide +kernel))
 refine qa2 fun K O T Y=>?_
 refine ck Tryz.call159 (fun w' hw=>qf7 (1) (2) (1/2:Rat) _ (lh_ HZ4.out) (by decide) om om om om) ?_
 refine ck Tryz.call159 (fun w' hw=>qf7 (-1) (4) (-1/4:Rat) _ (lh_ HZ5.out) (by decide) om om om om) ?_
 refine ck Tryz.call79 (fun w' hw=>fdiv_any (1/2:Rat) (-1/4:Rat) (-2:Rat) _ HZ6.out ok om om) ?_
 refine tk3_ ?_
 refine nlS Y I fun vw4 J=>?_
 clear Y T I
 go_wp2
 refine kF_ O ((J.out).aL (vw4.heap.size)) fun Wx4 I=>?_;clear O K
 clear J
 generalize vw4.heap.size=gx5 at *
 have HZ7:Hid (((1:Int):Rat)=(1:Rat)):=lh_ (by decide +kernel)
 have su7:sz ((1:Rat))≤2:=sz_of (wl_le.2 (by decide +kernel)) (wl_le.2 (by decide +kernel))
 have lx2:=kc1_ I
 refine kS fun K O=>?_
 refine wp_region_plan 7 [6] [5] (fun _=>8) (fun _=>.cells #[.int .u64 0,.string ⟨#[]⟩,.bool false,.int .u64 0,.string ⟨#[]⟩] 36) [(true,1),(true,0),(true,2),(true,3),(true,4),(true,5)] (by kernel_rfl) (by kernel_rfl) qu_ qr6 (fun _ _ _ _ _ h=>h) (fun T Y=>?_)
 refine tk ?_
 refine ck Tryz.call147 (fun w' hw=>fint_any (1) (1:Rat) _ HZ7.out om om) ?_
 refine ck Tryz.call79 (fun w' hw=>qg_ (1:Rat) (0:Rat) _ ok) ?_
 refine tk3_ ?_
 refine wpPlan_nil (Y.out _ _ ?_)
 intro G vw5 hg hf
 simp only [puts,Act.put,lA,lB,lC,lD,lE,↓reduceIte,Nat.reduceEqDiff]
 have J:=lh_ (I.out.fr hg hf (zs:=[(#[.int .u64 0,.string ⟨#[]⟩,.bool false,.int .u64 0,.string ⟨#[]⟩],36)]) rfl (by decide) (by decide))
 simp only [zq1_,zq2_,zq3_,zq4_,lF,lG] at J
 clear Y T I hg hf lx2
 generalize G 6=gx6 at *
 have lx6:=kc4_ J;have fx6:=kf4_ J
 have r0:=Gr.refl vw5
 go_wp2
 refine kO O ?_;clear O K
 clear r0 lx6 fx6
 refine fH (((((J.out).put2 4 0 rfl).put2 4 2 rfl).put 4 4 _ rfl).er 4) fun Wx5 I=>?_
 clear J
 refine wp_seq ?_
 have HB:=HPb I
 have HZ8:Hid (((1:Int):Rat) / ((2:Int):Rat)=(1/2:Rat)):=lh_ (by decide +kernel)
 have su8:sz ((1/2:Rat))≤4:=sz_of (wl_le.2 (by decide +kernel)) (wl_le.2 (by decide +kernel))
 have HZ9:Hid (((1:Int):Rat) / ((3:Int):Rat)=(1/3:Rat)):=lh_ (by decide +kernel)
 have su9:sz ((1/3:Rat))≤4:=sz_of (wl_le.2 (by decide +kernel)) (wl_le.2 (by decide +kernel))
 have HZ10:Hid ((1/2:Rat)+(1/3:Rat)=(5/6:Rat)):=lh_ (by decide +kernel)
 have su10:sz ((5/6:Rat))≤9:=sz_of (wl_le.2 (by decide +kernel)) (wl_le.2 (by decide +kernel))
 have HZ11:Hid (((1:Int):Rat) / ((2:Int):Rat)=(1/2:Rat)):=lh_ (by decide +kernel)
 have su11:sz ((1/2:Rat))≤4:=sz_of (wl_le.2 (by decide +kernel)) (wl_le.2 (by decide +kernel))
 have HZ12:Hid (((1:Int):Rat) / ((2:Int):Rat)=(1/2:Rat)):=lh_ (by decide +kernel)
 have su12:sz ((1/2:Rat))≤4:=sz_of (wl_le.2 (by decide +kernel)) (wl_le.2 (by decide +kernel))
 have HZ13:Hid ((1/2:Rat) - (1/2:Rat)=(0:Rat)):=lh_ (by decide +kernel)
 have su13:sz ((0:Rat))≤9:=sz_of (wl_le.2 (by decide +kernel)) (wl_le.2 (by decide +kernel))
 have HZ14:Hid (((2:Int):Rat) / ((3:Int):Rat)=(2/3:Rat)):=lh_ (by decide +kernel)
 have su14:sz ((2/3:Rat))≤4:=sz_of (wl_le.2 (by decide +kernel)) (wl_le.2 (by decide +kernel))
 have HZ15:Hid (((3:Int):Rat) / ((2:Int):Rat)=(3/2:Rat)):=lh_ (by decide +kernel)
 have su15:sz ((3/2:Rat))≤4:=sz_of (wl_le.2 (by decide +kernel)) (wl_le.2 (by decide +kernel))
 have HZ16:Hid ((2/3:Rat)*(3/2:Rat)=(1:Rat)):=lh_ (by decide +kernel)
 have su16:sz ((1:Rat))≤8:=sz_of (wl_le.2 (by decide +kernel)) (wl_le.2 (by decide +kernel))
 have lx1:=kc0_ I
 have lx2:=kc1_ I
 have lx4:=kc2_ I
 have lx5:=kc3_ I
 refine xC1 fun K O T Y=>?_
 refine tk ?_
 refine ck Tryz.call160 (fun w' hw=>qd8 (-3/2:Rat) ⟨#[45,51,47,50]⟩ true _ (lh_ (by decide +kernel)) om (lh_ (HT.out.gr (Gr.trans HB.out hw)))) ?_
 iterate 12 refine tk ?_
 refine ck Tryz.call160 (fun w' hw=>qd8 (1:Rat) ⟨#[49]⟩ true _ (lh_ (by decide +kernel)) om (lh_ (HT.out.gr (Gr.trans HB.out hw)))) ?_
 refine tk3_ ?_
 refine ck Tryz.call159 (fun w' hw=>qf7 (1) (2) (1/2:Rat) _ (lh_ HZ8.out) (by decide) om om om om) ?_
 refine ck Tryz.call159 (fun w' hw=>qf7 (1) (3) (1/3:Rat) _ (lh_ HZ9.out) (by decide) om om om om) ?_
 refine ck Tryz.call130 (fun w' hw=>qa_ (1/2:Rat) (1/3:Rat) (5/6:Rat) _ HZ10.out om om) ?_
 refine ck Tryz.call160 (fun w' hw=>qd8 (5/6:Rat) ⟨#[53,47,54]⟩ true _ (lh_ (by decide +kernel)) om (lh_ (HT.out.gr (Gr.trans HB.out hw)))) ?_
 refine tk3_ ?_
 refine ck Tryz.call159 (fun w' hw=>qf7 (1) (2) (1/2:Rat) _ (lh_ HZ11.out) (by decide) om om om om) ?_
 refine ck Tryz.call159 (fun w' hw=>qf7 (1) (2) (1/2:Rat) _ (lh_ HZ12.out) (by decide) om om om om) ?_
 refine ck Tryz.call132 (fun w' hw=>qg5 (1/2:Rat) (1/2:Rat) (0:Rat) _ HZ13.out om om) ?_
 refine ck Tryz.call160 (fun w' hw=>qd8 (0:Rat) ⟨#[48]⟩ true _ (lh_ (by decide +kernel)) om (lh_ (HT.out.gr (Gr.trans HB.out hw)))) ?_
 refine tk3_ ?_
 refine ck Tryz.call159 (fun w' hw=>qf7 (2) (3) (2/3:Rat) _ (lh_ HZ14.out) (by decide) om om om om) ?_
 refine ck Tryz.call159 (fun w' hw=>qf7 (3) (2) (3/2:Rat) _ (lh_ HZ15.out) (by decide) om om om om) ?_
 refine ck Tryz.call134 (fun w' hw=>fmul_any (2/3:Rat) (3/2:Rat) (1:Rat) _ HZ16.out om om) ?_
 refine ck Tryz.call160 (fun w' hw=>qd8 (1:Rat) ⟨#[49]⟩ true _ (lh_ (by decide +kernel)) om (lh_ (HT.out.gr (Gr.trans HB.out hw)))) ?_
 iterate 4 refine tk ?_
 refine ck Tryz.call160 (fun w' hw=>qd8 (-2:Rat) ⟨#[45,50]⟩ true _ (lh_ (by decide +kernel)) om (lh_ (HT.out.gr (Gr.trans HB.out hw)))) ?_
 iterate 6 refine tk ?_
 refine nzR Y O (fun w2 hg=>((I.out.gr hg).er 3).er 2) ?_;clear Y T I lx1 lx2 lx4 lx5 HB O K;intro Wx6 I
 refine wp_cond_false (by rfl) ?_
 refine wp_skip ?_
 show Code.wp _ _ _ _ _
 have HZ17:Hid (((2:Int):Rat) / ((3:Int):Rat)=(2/3:Rat)):=lh_ (by decide +kernel)
 have su17:sz ((2/3:Rat))≤4:=sz_of (wl_le.2 (by decide +kernel)) (wl_le.2 (by decide +kernel))
 have HZ18:Hid ((1 / (2/3:Rat)) ^ 2=(9/4:Rat)):=lh_ (by decide +kernel)
 have su18:sz ((9/4:Rat))≤1:=sz_of (wl_le.2 (by decide +kernel)) (wl_le.2 (by decide +kernel))
 refine ks5_ fun K O T Y=>?_
 refine ck Tryz.call159 (fun w' hw=>qf7 (2) (3) (2/3:Rat) _ (lh_ HZ17.out) (by decide) om om om om) ?_
 refine ck Tryz.call151 (fun w' hw=>fpow_neg (2/3:Rat) (9/4:Rat) 2 _ HZ18.out (by decide) (by decide) (by decide +kernel) (by decide +kernel) (by decide +kernel) om) ?_
 refine tk3_ ?_
 refine nlS Y I fun vw7 J=>?_
 clear Y T I
 go_wp2
 refine kF_ O ((J.out).aL (vw7.heap.size)) fun Wx8 I=>?_;clear O K
 clear J
 generalize vw7.heap.size=gx7 at *
 have lx2:=kc1_ I
 refine ks5_ fun K O T Y=>?_
 refine tk ?_
 refine ck Tryz.call151 (fun w' hw=>fpow_zero (0:Rat) (-1) _ (by decide) (by decide) ok) ?_
 refine tk3_ ?_
 refine nlS Y I fun vw8 J=>?_
 clear Y T I lx2
 go_wp2
 refine kF_ O (((J.out).aL (vw8.heap.size)).er 3) fun Wx9 I=>?_;clear O K
 clear J
 generalize vw8.heap.size=gx8 at *
 have HZ19:Hid ((0:Rat) ^ 0=(1:Rat)):=lh_ (by decide +kernel)
 have su19:sz ((1:Rat))≤1:=sz_of (wl_le.2 (by decide +kernel)) (wl_le.2 (by decide +kernel))
 have lx2:=kc1_ I
 refine ks5_ fun K O T Y=>?_
 refine tk ?_
 refine ck Tryz.call151 (fun w' hw=>fpow_ok (0:Rat) (1:Rat) 0 _ HZ19.out (by decide) (by decide +kernel) (by decide +kernel) om) ?_
 refine tk3_ ?_
 refine nlS Y I fun vw9 J=>?_
 clear Y T I lx2
 go_wp2
 refine kF_ O ((J.out).aL (vw9.heap.size)) fun Wx10 I=>?_;clear O K
 clear J
 generalize vw9.heap.size=gx9 at *
 refine wp_seq ?_
 have HB:=HPb I
 have HZ20:Hid (((-3/2:Rat)).floor = -2):=lh_ (by decide +kernel)
 have su20:wl (Int.natAbs (-2))≤5:=wl_le.2 (by decide +kernel)
 have HZ21:Hid (((-3/2:Rat)).ceil = -1):=lh_ (by decide +kernel)
 have su21:wl (Int.natAbs (-1))≤5:=wl_le.2 (by decide +kernel)
 have HZ22:Hid (((-1:Int):Rat)=(-1:Rat)):=lh_ (by decide +kernel)
 have su22:sz ((-1:Rat))≤2:=sz_of (wl_le.2 (by decide +kernel)) (wl_le.2 (by decide +kernel))
 have HZ23:Hid (((-1:Int):Rat) / ((2:Int):Rat)=(-1/2:Rat)):=lh_ (by decide +kernel)
 have su23:sz ((-1/2:Rat))≤4:=sz_of (wl_le.2 (by decide +kernel)) (wl_le.2 (by decide +kernel))
 have lx1:=kc0_ I
 have lx7:=kc2_ I
 have lx9:=kc3_ I
 refine kS fun K O=>?_
 have HG0:Hid (Gr Wx10 Wx10):=lh_ (Gr.refl _)
 refine xD_ fun T Y=>?_
 refine tk ?_
 refine ck Tryz.call142 (fun w' hw=>qe4 (-3/2:Rat) (-2) _ (lh_ HZ20.out) om) ?_
 refine ck Tryz.call141 (fun w' hw=>qw1 (-2) ⟨#[45,50]⟩ _ (qU2 (-2) (n:=2) (by decide) (by decide) (qR1 1 (by decide +kernel) (by decide +kernel))) om (lh_ (HT.out.gr (Gr.trans HB.out hw)))) ?_
 refine tk3_ ?_
 refine ck Tryz.call148 (fun w' hw=>qt4 (-3/2:Rat) (-1) _ (lh_ HZ21.out) om) ?_
 refine ck Tryz.call141 (fun w' hw=>qw1 (-1) ⟨#[45,49]⟩ _ (qU2 (-1) (n:=1) (by decide) (by decide) (qR1 1 (by decide +kernel) (by decide +kernel))) om (lh_ (HT.out.gr (Gr.trans HB.out hw)))) ?_
 iterate 4 refine tk ?_
 refine ck Tryz.call160 (fun w' hw=>qd8 (9/4:Rat) ⟨#[57,47,52]⟩ true _ (lh_ (by decide +kernel)) om (lh_ (HT.out.gr (Gr.trans HB.out hw)))) ?_
 iterate 8 refine tk ?_
 refine ck Tryz.call160 (fun w' hw=>qd8 (1:Rat) ⟨#[49]⟩ true _ (lh_ (by decide +kernel)) om (lh_ (HT.out.gr (Gr.trans HB.out hw)))) ?_
 refine tk3_ ?_
 refine ck Tryz.call155 (fun w' hw=>xn3 _) ?_
 refine ck Tryz.call160 (fun w' hw=>qd8 (0:Rat) ⟨#[48]⟩ true _ (lh_ (by decide +kernel)) om (lh_ (HT.out.gr (Gr.trans HB.out hw)))) ?_
 refine tk3_ ?_
 refine ck Tryz.call147 (fun w' hw=>fint_any (-1) (-1:Rat) _ HZ22.out om om) ?_
 refine ck Tryz.call159 (fun w' hw=>qf7 (-1) (2) (-1/2:Rat) _ (lh_ HZ23.out) (by decide) om om om om) ?_
 refine qb5 (cs:=#[.int .u64 (lo (Int.natAbs (((-1:Rat)).num))),.string (bg (Int.natAbs (((-1:Rat)).num))),.bool (decide ((((-1:Rat)).num)<0)),.int .u64 (lo (((-1:Rat)).den - 1)),.string (bg (((-1:Rat)).den - 1)),.int .u64 (lo (Int.natAbs (((-1/2:Rat)).num))),.string (bg (Int.natAbs (((-1/2:Rat)).num))),.bool (decide ((((-1/2:Rat)).num)<0)),.int .u64 (lo (((-1/2:Rat)).den - 1)),.string (bg (((-1/2:Rat)).den - 1))]) (E:=36) (n:=2) rfl (by rfl) (fun w' hw=>?_) (fun gx10 vv10 hg0 yx10 bx10=>?_)
 ·go_simp
 clear yx10
 replace HG0:=lh_ (HG0.out.trans hg0)
 have HGS:=lh_ hg0;clear hg0
 replace HB:=lh_ (HB.out.trans (HGS.out.mono HB.out.size))
 clear HGS
 have BX10:=lh_ bx10;clear bx10
 clear lx1;have lx1:=kg0_ I HG0
 clear lx7;have lx7:=kg2_ I HG0
 clear lx9;have lx9:=kg3_ I HG0
 simp only [Act.put,lA,lB,lC]
 refine ck Tryz.call155 (fun w' hw=>qS4 (-1:Rat) (-1/2:Rat) (1) gx10 _ (BX10.out.gr hw) (lh_ (by decide +kernel)) (by decide) om om) ?_
 refine ck Tryz.call160 (fun w' hw=>qd8 (-1/2:Rat) ⟨#[45,49,47,50]⟩ true _ (lh_ (by decide +kernel)) om (lh_ (HT.out.gr (Gr.trans HB.out hw)))) ?_
 refine tk2_ ?_
 refine nzR Y O (fun w2 hg=>((I.out.gr (HG0.out.trans hg)).er 3).er 2) ?_;clear Y T I HG0 BX10 lx1 lx7 lx9 HB O K;intro Wx11 I
 refine wp_cond_false (by rfl) ?_
 refine wp_skip ?_
 show Code.wp _ _ _ _ _
 refine kS fun K O=>?_
 have HG0:Hid (Gr Wx11 Wx11):=lh_ (Gr.refl _)
 refine qE9 fun T Y=>?_
 refine qb5 (cs:=#[.string ⟨#[45,54,47,52]⟩,.string ⟨#[49,47,48]⟩,.string ⟨#[49,47,45,50]⟩,.string ⟨#[49,47,50,47,51]⟩,.string ⟨#[48,47,55]⟩,.string ⟨#[]⟩,.string ⟨#[49,47]⟩]) (E:=9) (n:=7) rfl (by rfl) (fun w' hw=>?_) (fun gx11 vv11 hg0 yx11 bx11=>?_)
 ·go_simp
 have YX11:=lh_ (Nat.le_trans HG0.out.size yx11)
 clear yx11
 replace HG0:=lh_ (HG0.out.trans hg0)
 have HGS:=lh_ hg0;clear hg0
 clear HGS
 have BX11:=lh_ bx11;clear bx11
 simp only [Act.put,lA,lB,lC]
 refine tk ?_
 refine wpPlan_nil (Y.out _ _ ?_)
 intro vw11 hg
 simp only [puts,Act.put,lA,lB,lC,lD,lE,↓reduceIte,Nat.reduceEqDiff]
 have J:=lh_ (I.out.grS (HG0.out.trans hg) YX11.out (BX11.out.gr hg) (by decide))
 simp only [zq1_,zq2_,zq3_,zq4_,lF,lG] at J
 clear Y T I hg HG0 BX11
 clear YX11
 go_wp2
 refine kO O ?_;clear O K
 have I:=J;clear J
 refine kS fun K O=>?_
 have HG0:Hid (Gr vw11 vw11):=lh_ (Gr.refl _)
 refine qE9 fun T Y=>?_
 refine qb5 (cs:=#[.int .i64 0,.int .i64 5,.int .i64 4,.int .i64 4,.int .i64 0,.int .i64 4,.int .i64 4]) (E:=73) (n:=7) rfl (by rfl) (fun w' hw=>?_) (fun gx12 vv12 hg0 yx12 bx12=>?_)
 ·go_simp
 have YX12:=lh_ (Nat.le_trans HG0.out.size yx12)
 clear yx12
 replace HG0:=lh_ (HG0.out.trans hg0)
 have HGS:=lh_ hg0;clear hg0
 clear HGS
 have BX12:=lh_ bx12;clear bx12
 simp only [Act.put,lA,lB,lC]
 refine tk ?_
 refine wpPlan_nil (Y.out _ _ ?_)
 intro vw12 hg
 simp only [puts,Act.put,lA,lB,lC,lD,lE,↓reduceIte,Nat.reduceEqDiff]
 have J:=lh_ (I.out.grS (HG0.out.trans hg) YX12.out (BX12.out.gr hg) (by decide))
 simp only [zq1_,zq2_,zq3_,zq4_,lF,lG] at J
 clear Y T I hg HG0 BX12
 clear YX12
 go_wp2
 refine kO O ?_;clear O K
 have I:=J;clear J
 refine wp_seq ?_
 refine kSl fun K O=>?_;go_wp2
 refine kF_ O (I.out) fun Wx15 J=>?_;clear O K
 clear I;have I:=J;clear J
 refine wp_block ?_
 refine wp_loop_rounds 8 ?_
 rw [rounds_succ]
 refine wp_seq ?_
 refine qb2 fun K O T Y=>?_
 iterate 4 refine tk ?_
 refine nz Y I O ?_;clear Y T I O K;intro vw13 I
 refine wp_cond_true (by rfl) ?_
 refine wp_skip ?_
 show Code.wp _ _ _ _ _
 refine wp_seq ?_
 refine wp_block ?_
 have su24:sz (-3/2:Rat)≤1:=sz_of (wl_le.2 (by decide +kernel)) (wl_le.2 (by decide +kernel))
 have lx11:=kc2_ I
 refine qd4 fun K O T Y=>?_
 iterate 4 refine tk ?_
 refine ck Tryz.call152 (fun w' hw=>qg3 ⟨#[45,54,47,52]⟩ (-3/2:Rat) 0 _ (by decide +kernel) (by decide +kernel) (by decide)) ?_
 refine tk3_ ?_
 refine nlS Y I fun vw14 J=>?_
 clear Y T I lx11
 go_wp2
 refine kF_ O ((J.out).aL (vw14.heap.size)) fun Wx18 I=>?_;clear O K
 clear J
 generalize vw14.heap.size=gx13 at *
 have lx1:=kc0_ I
 have lx2:=kc1_ I
 have lx12:=kc3_ I
 have lx13:=kc4_ I
 refine qz6 fun K O T Y=>?_
 iterate 19 refine tk ?_
 iterate 3 refine sk ?_
 refine tk2_ ?_
 refine nz Y I O ?_;clear Y T I lx1 lx2 lx12 lx13 O K;intro vw15 I
 refine wp_cond_false (by rfl) ?_
 refine wp_skip ?_
 show Code.wp _ _ _ _ _
 refine kL fun K O=>?_
 refine sq3_ fun T Y=>?_
 refine tk3_ ?_
 refine nlS Y I fun vw16 J=>?_
 clear Y T I
 go_wp2
 refine O.out _ _ ?_;clear O K
 show Code.rounds _ _ _ _ _ _
 rw [rounds_succ]
 have I:=J;clear J
 refine wp_seq ?_
 refine qb2 fun K O T Y=>?_
 iterate 4 refine tk ?_
 refine nz Y I O ?_;clear Y T I O K;intro vw17 I
 refine wp_cond_true (by rfl) ?_
 refine wp_skip ?_
 show Code.wp _ _ _ _ _
 refine wp_seq ?_
 refine wp_block ?_
 have su25:sz (0:Rat)≤1:=sz_of (wl_le.2 (by decide +kernel)) (wl_le.2 (by decide +kernel))
 have lx11:=kc2_ I
 refine qd4 fun K O T Y=>?_
 iterate 4 refine tk ?_
 refine ck Tryz.call152 (fun w' hw=>qg3 ⟨#[49,47,48]⟩ (0:Rat) 5 _ (by decide +kernel) (by decide +kernel) (by decide)) ?_
 refine tk3_ ?_
 refine nlS Y I fun vw18 J=>?_
 clear Y T I lx11
 go_wp2
 refine kF_ O (((J.out).aL (vw18.heap.size)).er 4) fun Wx18 I=>?_;clear O K
 clear J
 generalize vw18.heap.size=gx14 at *
 have lx1:=kc0_ I
 have lx2:=kc1_ I
 have lx12:=kc3_ I
 have lx14:=kc4_ I
 refine qz6 fun K O T Y=>?_
 iterate 10 refine tk ?_
 iterate 3 refine sk ?_
 iterate 11 refine tk ?_
 refine nz Y I O ?_;clear Y T I lx1 lx2 lx12 lx14 O K;intro vw19 I
 refine wp_cond_false (by rfl) ?_
 refine wp_skip ?_
 show Code.wp _ _ _ _ _
 refine kL fun K O=>?_
 refine sq3_ fun T Y=>?_
 refine tk3_ ?_
 refine nlS Y I fun vw20 J=>?_
 clear Y T I
 go_wp2
 refine O.out _ _ ?_;clear O K
 show Code.rounds _ _ _ _ _ _
 rw [rounds_succ]
 have I:=J;clear J
 refine wp_seq ?_
 refine qb2 fun K O T Y=>?_
 iterate 4 refine tk ?_
 refine nz Y I O ?_;clear Y T I O K;intro vw21 I
 refine wp_cond_true (by rfl) ?_
 refine wp_skip ?_
 show Code.wp _ _ _ _ _
 refine wp_seq ?_
 refine wp_block ?_
 have su26:sz (0:Rat)≤1:=sz_of (wl_le.2 (by decide +kernel)) (wl_le.2 (by decide +kernel))
 have lx11:=kc2_ I
 refine qd4 fun K O T Y=>?_
 iterate 4 refine tk ?_
 refine ck Tryz.call152 (fun w' hw=>qg3 ⟨#[49,47,45,50]⟩ (0:Rat) 4 _ (by decide +kernel) (by decide +kernel) (by decide)) ?_
 refine tk3_ ?_
 refine nlS Y I fun vw22 J=>?_
 clear Y T I lx11
 go_wp2
 refine kF_ O (((J.out).aL (vw22.heap.size)).er 4) fun Wx18 I=>?_;clear O K
 clear J
 generalize vw22.heap.size=gx15 at *
 have lx1:=kc0_ I
 have lx2:=kc1_ I
 have lx12:=kc3_ I
 have lx15:=kc4_ I
 refine qz6 fun K O T Y=>?_
 iterate 10 refine tk ?_
 iterate 3 refine sk ?_
 iterate 11 refine tk ?_
 refine nz Y I O ?_;clear Y T I lx1 lx2 lx12 lx15 O K;intro vw23 I
 refine wp_cond_false (by rfl) ?_
 refine wp_skip ?_
 show Code.wp _ _ _ _ _
 refine kL fun K O=>?_
 refine sq3_ fun T Y=>?_
 refine tk3_ ?_
 refine nlS Y I fun vw24 J=>?_
 clear Y T I
 go_wp2
 refine O.out _ _ ?_;clear O K
 show Code.rounds _ _ _ _ _ _
 rw [rounds_succ]
 have I:=J;clear J
 refine wp_seq ?_
 refine qb2 fun K O T Y=>?_
 iterate 4 refine tk ?_
 refine nz Y I O ?_;clear Y T I O K;intro vw25 I
 refine wp_cond_true (by rfl) ?_
 refine wp_skip ?_
 show Code.wp _ _ _ _ _
 refine wp_seq ?_
 refine wp_block ?_
 have su27:sz (0:Rat)≤1:=sz_of (wl_le.2 (by decide +kernel)) (wl_le.2 (by decide +kernel))
 have lx11:=kc2_ I
 refine qd4 fun K O T Y=>?_
 iterate 4 refine tk ?_
 refine ck Tryz.call152 (fun w' hw=>qg3 ⟨#[49,47,50,47,51]⟩ (0:Rat) 4 _ (by decide +kernel) (by decide +kernel) (by decide)) ?_
 refine tk3_ ?_
 refine nlS Y I fun vw26 J=>?_
 clear Y T I lx11
 go_wp2
 refine kF_ O (((J.out).aL (vw26.heap.size)).er 4) fun Wx18 I=>?_;clear O K
 clear J
 generalize vw26.heap.size=gx16 at *
 have lx1:=kc0_ I
 have lx2:=kc1_ I
 have lx12:=kc3_ I
 have lx16:=kc4_ I
 refine qz6 fun K O T Y=>?_
 iterate 10 refine tk ?_
 iterate 3 refine sk ?_
 iterate 11 refine tk ?_
 refine nz Y I O ?_;clear Y T I lx1 lx2 lx12 lx16 O K;intro vw27 I
 refine wp_cond_false (by rfl) ?_
 refine wp_skip ?_
 show Code.wp _ _ _ _ _
 refine kL fun K O=>?_
 refine sq3_ fun T Y=>?_
 refine tk3_ ?_
 refine nlS Y I fun vw28 J=>?_
 clear Y T I
 go_wp2
 refine O.out _ _ ?_;clear O K
 show Code.rounds _ _ _ _ _ _
 rw [rounds_succ]
 have I:=J;clear J
 refine wp_seq ?_
 refine qb2 fun K O T Y=>?_
 iterate 4 refine tk ?_
 refine nz Y I O ?_;clear Y T I O K;intro vw29 I
 refine wp_cond_true (by rfl) ?_
 refine wp_skip ?_
 show Code.wp _ _ _ _ _
 refine wp_seq ?_
 refine wp_block ?_
 have su28:sz (0:Rat)≤1:=sz_of (wl_le.2 (by decide +kernel)) (wl_le.2 (by decide +kernel))
 have lx11:=kc2_ I
 refine qd4 fun K O T Y=>?_
 iterate 4 refine tk ?_
 refine ck Tryz.call152 (fun w' hw=>qg3 ⟨#[48,47,55]⟩ (0:Rat) 0 _ (by decide +kernel) (by decide +kernel) (by decide)) ?_
 refine tk3_ ?_
 refine nlS Y I fun vw30 J=>?_
 clear Y T I lx11
 go_wp2
 refine kF_ O (((J.out).aL (vw30.heap.size)).er 4) fun Wx18 I=>?_;clear O K
 clear J
 generalize vw30.heap.size=gx17 at *
 have lx1:=kc0_ I
 have lx2:=kc1_ I
 have lx12:=kc3_ I
 have lx17:=kc4_ I
 refine qz6 fun K O T Y=>?_
 iterate 10 refine tk ?_
 iterate 3 refine sk ?_
 iterate 11 refine tk ?_
 refine nz Y I O ?_;clear Y T I lx1 lx2 lx12 lx17 O K;intro vw31 I
 refine wp_cond_false (by rfl) ?_
 refine wp_skip ?_
 show Code.wp _ _ _ _ _
 refine kL fun K O=>?_
 refine sq3_ fun T Y=>?_
 refine tk3_ ?_
 refine nlS Y I fun vw32 J=>?_
 clear Y T I
 go_wp2
 refine O.out _ _ ?_;clear O K
 show Code.rounds _ _ _ _ _ _
 rw [rounds_succ]
 have I:=J;clear J
 refine wp_seq ?_
 refine qb2 fun K O T Y=>?_
 iterate 4 refine tk ?_
 refine nz Y I O ?_;clear Y T I O K;intro vw33 I
 refine wp_cond_true (by rfl) ?_
 refine wp_skip ?_
 show Code.wp _ _ _ _ _
 refine wp_seq ?_
 refine wp_block ?_
 have su29:sz (0:Rat)≤1:=sz_of (wl_le.2 (by decide +kernel)) (wl_le.2 (by decide +kernel))
 have lx11:=kc2_ I
 refine qd4 fun K O T Y=>?_
 iterate 4 refine tk ?_
 refine ck Tryz.call152 (fun w' hw=>qg3 ⟨#[]⟩ (0:Rat) 4 _ (by decide +kernel) (by decide +kernel) (by decide)) ?_
 refine tk3_ ?_
 refine nlS Y I fun vw34 J=>?_
 clear Y T I lx11
 go_wp2
 refine kF_ O (((J.out).aL (vw34.heap.size)).er 4) fun Wx18 I=>?_;clear O K
 clear J
 generalize vw34.heap.size=gx18 at *
 have lx1:=kc0_ I
 have lx2:=kc1_ I
 have lx12:=kc3_ I
 have lx18:=kc4_ I
 refine qz6 fun K O T Y=>?_
 iterate 10 refine tk ?_
 iterate 3 refine sk ?_
 iterate 11 refine tk ?_
 refine nz Y I O ?_;clear Y T I lx1 lx2 lx12 lx18 O K;intro vw35 I
 refine wp_cond_false (by rfl) ?_
 refine wp_skip ?_
 show Code.wp _ _ _ _ _
 refine kL fun K O=>?_
 refine sq3_ fun T Y=>?_
 refine tk3_ ?_
 refine nlS Y I fun vw36 J=>?_
 clear Y T I
 go_wp2
 refine O.out _ _ ?_;clear O K
 show Code.rounds _ _ _ _ _ _
 rw [rounds_succ]
 have I:=J;clear J
 refine wp_seq ?_
 refine qb2 fun K O T Y=>?_
 iterate 4 refine tk ?_
 refine nz Y I O ?_;clear Y T I O K;intro vw37 I
 refine wp_cond_true (by rfl) ?_
 refine wp_skip ?_
 show Code.wp _ _ _ _ _
 refine wp_seq ?_
 refine wp_block ?_
 have su30:sz (0:Rat)≤1:=sz_of (wl_le.2 (by decide +kernel)) (wl_le.2 (by decide +kernel))
 have lx11:=kc2_ I
 refine qd4 fun K O T Y=>?_
 iterate 4 refine tk ?_
 refine ck Tryz.call152 (fun w' hw=>qg3 ⟨#[49,47]⟩ (0:Rat) 4 _ (by decide +kernel) (by decide +kernel) (by decide)) ?_
 refine tk3_ ?_
 refine nlS Y I fun vw38 J=>?_
 clear Y T I lx11
 go_wp2
 refine kF_ O (((J.out).aL (vw38.heap.size)).er 4) fun Wx18 I=>?_;clear O K
 clear J
 generalize vw38.heap.size=gx19 at *
 have lx1:=kc0_ I
 have lx2:=kc1_ I
 have lx12:=kc3_ I
 have lx19:=kc4_ I
 refine qz6 fun K O T Y=>?_
 iterate 10 refine tk ?_
 iterate 3 refine sk ?_
 iterate 11 refine tk ?_
 refine nz Y I O ?_;clear Y T I lx1 lx2 lx12 lx19 O K;intro vw39 I
 refine wp_cond_false (by rfl) ?_
 refine wp_skip ?_
 show Code.wp _ _ _ _ _
 refine kL fun K O=>?_
 refine sq3_ fun T Y=>?_
 refine tk3_ ?_
 refine nlS Y I fun vw40 J=>?_
 clear Y T I
 go_wp2
 refine O.out _ _ ?_;clear O K
 show Code.rounds _ _ _ _ _ _
 rw [rounds_succ]
 have I:=J;clear J
 refine wp_seq ?_
 refine qb2 fun K O T Y=>?_
 iterate 4 refine tk ?_
 refine nz Y I O ?_;clear Y T I O K;intro vw41 I
 refine wp_cond_false (by rfl) ?_
 refine wp_exit ?_
 show Code.wp _ _ _ _ _
 refine kSl fun K O=>?_;go_wp2
 refine kF_ O ((((((I.out).er 4).er 3).er 2).er 1).er 0) fun Wx21 J=>?_;clear O K
 clear I;have I:=J;clear J
 refine wp_ret ?_
 try simp only [Exit.then,Exit.inBlock]
 exact bR ⟨rfl,I.out.1⟩ (by simp [results,Tryz.results62,go_sem])
end Go.Proofs.YtobojnodohjiaaaGreatDoor
