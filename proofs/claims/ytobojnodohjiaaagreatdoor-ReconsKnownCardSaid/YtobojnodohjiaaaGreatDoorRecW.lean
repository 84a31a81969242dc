
/- gussetlaw07: works. -/
import Derived.Test.YtobojnodohjiaaaGreatDoorRecW0
import Derived.Test.YtobojnodohjiaaaGreatDoorIntE
import Derived.Test.YtobojnodohjiaaaGreatDoorPJ
import Derived.Test.YtobojnodohjiaaaGreatDoorEarly
set_option maxRecDepth 100000
set_option maxHeartbeats 16000000
set_option linter.unusedVariables false
set_option linter.unusedSimpArgs false
namespace Go.Proofs.YtobojnodohjiaaaGreatDoor
open Go.RowKit
attribute [local go_sem ↓] Go.wp_at_zero Go.wp_at_succ
attribute [local go_sem ↓] qb8 qa3 qc8
attribute [local go_sem ↓] qd9 qb7 qb8 qa3
theorem qa9  (w:World)  (HT:Hid (Tab w)) :
  Calls Tryz.prog 27 #[] w fun e w'=>e=.returned (.bool true)∧Below w.heap.size w w':=by
 go_enter Tryz.func27,Tryz.ntmps27
 have I:=lh_ (hp0 w)
 refine kS fun K O=>?_
 refine wp_region_lit ?_
 go_wp2
 refine kF_ O (I.out) fun Wx0 J=>?_;clear O K
 clear I;have I:=J;clear J
 refine wp_seq ?_
 have HB:=HPb I
 refine xF1 fun K O T Y=>?_
 refine ck Tryz.call105 (fun w' hw=>qt5 (5) 9 (1/2:Rat) ⟨#[49,47,50]⟩ _ (lh_ (qJ3 (by decide +kernel) (by decide +kernel))) (lh_ (by decide +kernel)) (by decide) (by decide) (by decide) (qb1.2 (by decide +kernel)) (lh_ (HT.out.gr (Gr.trans HB.out hw)))) ?_
 refine tk2_ ?_
 refine ck Tryz.call105 (fun w' hw=>qt5 (-4) 9 (1/2:Rat) ⟨#[49,47,50]⟩ _ (lh_ (qJ3 (by decide +kernel) (by decide +kernel))) (lh_ (by decide +kernel)) (by decide) (by decide) (by decide) (qb1.2 (by decide +kernel)) (lh_ (HT.out.gr (Gr.trans HB.out hw)))) ?_
 refine tk3_ ?_
 refine ck Tryz.call105 (fun w' hw=>qP3 (3) 9 _ (lh_ (qO_ (qB6 (k:=3) (by decide) (by decide +kernel)))) (by decide) (by decide) (by decide) (qb1.2 (by decide +kernel))) ?_
 refine tk3_ ?_
 refine ck Tryz.call105 (fun w' hw=>qt5 (0) 3 (0:Rat) ⟨#[48]⟩ _ (lh_ (qJ3 (by decide +kernel) (by decide +kernel))) (lh_ (by decide +kernel)) (by decide) (by decide) (by decide) (qb1.2 (by decide +kernel)) (lh_ (HT.out.gr (Gr.trans HB.out hw)))) ?_
 refine tk3_ ?_
 refine ck Tryz.call105 (fun w' hw=>qP3 (0) 2 _ (lh_ (qO_ (qB6 (k:=1) (by decide) (by decide +kernel)))) (by decide) (by decide) (by decide) (qb1.2 (by decide +kernel))) ?_
 refine tk3_ ?_
 refine ck Tryz.call105 (fun w' hw=>qP3 (10) 101 _ (lh_ (qO_ (qB6 (k:=8) (by decide) (by decide +kernel)))) (by decide) (by decide) (by decide) (qb1.2 (by decide +kernel))) ?_
 refine tk3_ ?_
 refine ck Tryz.call105 (fun w' hw=>qt5 (67) 101 (-1/3:Rat) ⟨#[45,49,47,51]⟩ _ (lh_ (qJ3 (by decide +kernel) (by decide +kernel))) (lh_ (by decide +kernel)) (by decide) (by decide) (by decide) (qb1.2 (by decide +kernel)) (lh_ (HT.out.gr (Gr.trans HB.out hw)))) ?_
 refine tk3_ ?_
 refine ck Tryz.call105 (fun w' hw=>qt5 (34) 101 (1/3:Rat) ⟨#[49,47,51]⟩ _ (lh_ (qJ3 (by decide +kernel) (by decide +kernel))) (lh_ (by decide +kernel)) (by decide) (by decide) (by decide) (qb1.2 (by decide +kernel)) (lh_ (HT.out.gr (Gr.trans HB.out hw)))) ?_
 refine tk3_ ?_
 refine ck Tryz.call105 (fun w' hw=>qt5 (20) 101 (-1/5:Rat) ⟨#[45,49,47,53]⟩ _ (lh_ (qJ3 (by decide +kernel) (by decide +kernel))) (lh_ (by decide +kernel)) (by decide) (by decide) (by decide) (qb1.2 (by decide +kernel)) (lh_ (HT.out.gr (Gr.trans HB.out hw)))) ?_
 refine tk2_ ?_
 refine nlS Y I fun vw1 J=>?_
 clear Y T I HB
 go_wp2
 refine kO O ?_;clear O K
 have I:=J;clear J
 refine wp_cond_false (by rfl) ?_
 refine wp_skip ?_
 show Code.wp _ _ _ _ _
 have su1:wl (Int.natAbs (5))≤1:=qb1.2 (by decide +kernel)
 have su_0_3:wl 9≤1:=qb1.2 (by decide +kernel)
 have su2:wl (Int.natAbs (0))≤1:=qb1.2 (by decide +kernel)
 refine ks3_ fun K O T Y=>?_
 refine ck Tryz.call23 (fun w' hw=>qd3 (5) _ (by decide) (by decide)) ?_
 refine ck Tryz.call24 (fun w' hw=>nzof 9 _ (by decide)) ?_
 refine ck Tryz.call23 (fun w' hw=>qd3 (0) _ (by decide) (by decide)) ?_
 refine nlS Y I fun vw2 J=>?_
 clear Y T I
 go_wp2
 refine kF_ O ((((J.out).aL (vw2.heap.size)).aL (vw2.heap.size+1)).aL (vw2.heap.size+1+1)) fun Wx3 I=>?_;clear O K
 clear J
 generalize vw2.heap.size+1+1=gx3 at *
 generalize vw2.heap.size+1=gx2 at *
 generalize vw2.heap.size=gx1 at *
 refine wp_seq ?_
 have HZ3:Hid (((1:Int):Rat) / ((2:Int):Rat)=(1/2:Rat)):=lh_ (by decide +kernel)
 have su3:sz ((1/2:Rat))≤4:=qA6 (qb1.2 (by decide +kernel)) (qb1.2 (by decide +kernel))
 have HZ4:Hid (((1:Int):Rat) / ((3:Int):Rat)=(1/3:Rat)):=lh_ (by decide +kernel)
 have su4:sz ((1/3:Rat))≤4:=qA6 (qb1.2 (by decide +kernel)) (qb1.2 (by decide +kernel))
 have HZ5:Hid (((2:Int):Rat) / ((1:Int):Rat)=(2:Rat)):=lh_ (by decide +kernel)
 have su5:sz ((2:Rat))≤4:=qA6 (qb1.2 (by decide +kernel)) (qb1.2 (by decide +kernel))
 have HZ6:Hid (((2:Int):Rat) / ((1:Int):Rat)=(2:Rat)):=lh_ (by decide +kernel)
 have su6:sz ((2:Rat))≤4:=qA6 (qb1.2 (by decide +kernel)) (qb1.2 (by decide +kernel))
 have su_1_4:wl 8≤1:=qb1.2 (by decide +kernel)
 have lx1:=kc0_ I
 have lx2:=kc1_ I
 have lx3:=kc2_ I
 refine kS fun K O=>?_
 refine xG_ fun T Y=>?_
 refine tk2_ ?_
 refine ck Tryz.call26 (fun w' hw=>qp1 (1) (2) (1/2:Rat) _ (lh_ HZ3.out) (by decide) om om om om) ?_
 refine ck Tryz.call33 (fun w' hw=>ql8 (1/2:Rat) (5) (9) true _ (decide_eq_true (by decide +kernel)) om om om) ?_
 iterate 4 refine tk ?_
 refine ck Tryz.call26 (fun w' hw=>qp1 (1) (3) (1/3:Rat) _ (lh_ HZ4.out) (by decide) om om om om) ?_
 refine ck Tryz.call33 (fun w' hw=>ql8 (1/3:Rat) (0) (9) false _ (decide_eq_false (by decide +kernel)) om om om) ?_
 refine tk3_ ?_
 refine ck Tryz.call26 (fun w' hw=>qp1 (2) (1) (2:Rat) _ (lh_ HZ5.out) (by decide) om om om om) ?_
 refine ck Tryz.call34 (fun w' hw=>rFar (2:Rat) (9) true _ (decide_eq_true (by decide +kernel)) om om) ?_
 refine tk3_ ?_
 refine ck Tryz.call26 (fun w' hw=>qp1 (2) (1) (2:Rat) _ (lh_ HZ6.out) (by decide) om om om om) ?_
 refine ck Tryz.call24 (fun w' hw=>nzof 8 _ (by decide)) ?_
 refine ck Tryz.call34 (fun w' hw=>rFar (2:Rat) (8) false _ (decide_eq_false (by decide +kernel)) om om) ?_
 refine nlD Y I fun vw3 J=>?_
 clear Y T I lx1 lx2 lx3
 go_wp2
 refine kF_ O ((((J.out).er 2).er 1).er 0) fun Wx4 I=>?_;clear O K
 clear J
 refine wp_cond_false (by rfl) ?_
 refine wp_skip ?_
 show Code.wp _ _ _ _ _
 have HB:=HPb I
 refine kS fun K O=>?_
 have HG0:Hid (Gr Wx4 Wx4):=lh_ (Gr.refl _)
 refine xH_ fun T Y=>?_
 refine tk2_ ?_
 refine qd1 (cs:=#[.int .i64 2,.int .u32 3,.int .i64 3,.int .u32 5]) (E:=69) (n:=2) rfl (by rfl) (fun w' hw=>?_) (fun gx4 vv4 hg0 yx4 bx4=>?_)
 ·go_simp
 clear yx4
 replace HG0:=lh_ (HG0.out.trans hg0)
 have HGS:=lh_ hg0;clear hg0
 replace HB:=lh_ (HB.out.trans (HGS.out.mono HB.out.size))
 clear HGS
 have BX4:=lh_ bx4;clear bx4
 simp only [Act.put,lA,lB,lC]
 refine ck Tryz.call106 (fun w' hw=>qH1 2 3 3 5 gx4 8 15 ⟨#[56]⟩ ⟨#[49,53]⟩ ⟨#[56,32,98,121,32]⟩ ⟨#[56,32,98,121,32,49,53]⟩ _ (BX4.out.gr hw) (by decide) (by decide) (by decide) (by decide) (by decide) (by decide) (lh_ (qg1 (qg7 (P:=fun i=>0<(f2r 2 3 3 5 i).2) (by decide) (by decide)) (qQ1 (by decide) (by decide) (by decide +kernel) (by decide) (by decide) (by decide) (by decide)))) (qb1.2 (by decide +kernel)) (qb1.2 (by decide +kernel)) (lh_ (qC4 8 (n:=8) (by decide) (qo4 1 (by decide +kernel) (by decide +kernel)))) (lh_ (congrArg (fun l:List UInt8=>(⟨l.toArray⟩:ByteArray)) (qo4 2 (by decide +kernel) (by decide +kernel)))) (lh_ (by decide +kernel)) (lh_ (by decide +kernel)) (by decide) (by decide) (by decide) (lh_ (HT.out.gr (Gr.trans HB.out hw)))) ?_
 iterate 4 refine tk ?_
 refine qd1 (cs:=#[.int .i64 1,.int .u32 4,.int .i64 3,.int .u32 6]) (E:=69) (n:=2) rfl (by rfl) (fun w' hw=>?_) (fun gx5 vv5 hg0 yx5 bx5=>?_)
 ·go_simp
 clear yx5
 replace HG0:=lh_ (HG0.out.trans hg0)
 have HGS:=lh_ hg0;clear hg0
 replace BX4:=lh_ (BX4.out.gr HGS.out)
 replace HB:=lh_ (HB.out.trans (HGS.out.mono HB.out.size))
 clear HGS
 have BX5:=lh_ bx5;clear bx5
 simp only [Act.put,lA,lB,lC]
 refine ck Tryz.call106 (fun w' hw=>qH1 1 3 4 6 gx5 9 12 ⟨#[57]⟩ ⟨#[49,50]⟩ ⟨#[57,32,98,121,32]⟩ ⟨#[57,32,98,121,32,49,50]⟩ _ (BX5.out.gr hw) (by decide) (by decide) (by decide) (by decide) (by decide) (by decide) (lh_ (qg1 (qg7 (P:=fun i=>0<(f2r 1 4 3 6 i).2) (by decide) (by decide)) (qQ1 (by decide) (by decide) (by decide +kernel) (by decide) (by decide) (by decide) (by decide)))) (qb1.2 (by decide +kernel)) (qb1.2 (by decide +kernel)) (lh_ (qC4 9 (n:=9) (by decide) (qo4 1 (by decide +kernel) (by decide +kernel)))) (lh_ (congrArg (fun l:List UInt8=>(⟨l.toArray⟩:ByteArray)) (qo4 2 (by decide +kernel) (by decide +kernel)))) (lh_ (by decide +kernel)) (lh_ (by decide +kernel)) (by decide) (by decide) (by decide) (lh_ (HT.out.gr (Gr.trans HB.out hw)))) ?_
 iterate 5 refine tk ?_
 refine qd1 (cs:=#[.int .i64 1,.int .u32 4,.int .i64 2,.int .u32 6]) (E:=69) (n:=2) rfl (by rfl) (fun w' hw=>?_) (fun gx6 vv6 hg0 yx6 bx6=>?_)
 ·go_simp
 clear yx6
 replace HG0:=lh_ (HG0.out.trans hg0)
 have HGS:=lh_ hg0;clear hg0
 replace BX4:=lh_ (BX4.out.gr HGS.out)
 replace BX5:=lh_ (BX5.out.gr HGS.out)
 replace HB:=lh_ (HB.out.trans (HGS.out.mono HB.out.size))
 clear HGS
 have BX6:=lh_ bx6;clear bx6
 simp only [Act.put,lA,lB,lC]
 refine ck Tryz.call106 (fun w' hw=>qT0 1 2 4 6 gx6 _ (BX6.out.gr hw) (by decide) (by decide) (by decide) (by decide) (by decide) (by decide) (lh_ (qv4 (qg7 (P:=fun i=>0<(f2r 1 4 2 6 i).2) (by decide) (by decide)) (qt8 (by decide) (by decide) (by decide))))) ?_
 refine tk3_ ?_
 refine ck Tryz.call106 (fun w' hw=>xc_ 0 1 ⟨#[48]⟩ ⟨#[49]⟩ ⟨#[48,32,98,121,32]⟩ ⟨#[48,32,98,121,32,49]⟩ _ (lh_ (qg1 (fun i hi=>absurd hi (Nat.not_lt_zero _)) rfl)) (qb1.2 (by decide +kernel)) (qb1.2 (by decide +kernel)) (lh_ (qC4 0 (n:=0) (by decide) (qo4 1 (by decide +kernel) (by decide +kernel)))) (lh_ (congrArg (fun l:List UInt8=>(⟨l.toArray⟩:ByteArray)) (qo4 1 (by decide +kernel) (by decide +kernel)))) (lh_ (by decide +kernel)) (lh_ (by decide +kernel)) (by decide) (by decide) (by decide) (lh_ (HT.out.gr (Gr.trans HB.out hw)))) ?_
 refine tk3_ ?_
 refine qa0 (Y.out _ _ ?_)
 intro vw4 hg
 simp only [puts,Act.put,lA,lB,lC,lD,lE,↓reduceIte,Nat.reduceEqDiff]
 have J:=lh_ (I.out.gr (HG0.out.trans hg))
 clear Y T I hg HG0 BX4 BX5 BX6 HB
 go_wp2
 refine kO O ?_;clear O K
 have I:=J;clear J
 refine wp_ret ?_
 try simp only [Exit.then,Exit.inBlock]
 exact bodyPost_ret (v:=.bool true) (by simp [results,Tryz.results27,go_sem]) rfl ⟨rfl,I.out.1⟩
end Go.Proofs.YtobojnodohjiaaaGreatDoor
