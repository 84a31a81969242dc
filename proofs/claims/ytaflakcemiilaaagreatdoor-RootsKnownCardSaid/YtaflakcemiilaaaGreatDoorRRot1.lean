
/- gussetref03: Square, Same; gussetref05: step, may. -/
import Derived.Test.YtaflakcemiilaaaGreatDoorPlanQ
import Derived.Test.YtaflakcemiilaaaGreatDoorIntE
import Derived.Test.YtaflakcemiilaaaGreatDoorPJ
import Derived.Test.YtaflakcemiilaaaGreatDoorPT
import Derived.Test.YtaflakcemiilaaaGreatDoorHp
import Derived.Test.YtaflakcemiilaaaGreatDoorPV
import Derived.Test.YtaflakcemiilaaaGreatDoorPL
import Derived.Test.YtaflakcemiilaaaGreatDoorRot2
import Derived.Test.YtaflakcemiilaaaGreatDoorRot1
set_option maxRecDepth 100000
set_option maxHeartbeats 16000000
set_option linter.unusedVariables false
set_option linter.unusedSimpArgs false
namespace Go.Proofs.YtaflakcemiilaaaGreatDoor
open Go.RowKit
attribute [local go_sem ↓] Go.wp_at_zero Go.wp_at_succ
attribute [local go_sem ↓] qd6 qa7 qf4
attribute [local go_sem ↓] qk3 qe7 qd6 qa7
theorem qa6  (w:World)  (HT:Hid (Tab w)) :
  Calls Tryz.prog 22 #[] w fun e w'=>e=.returned (.bool true)∧Below w.heap.size w w':=by
 go_enter Tryz.func22,Tryz.ntmps22
 have I:=lh_ (hp0 w)
 refine kS fun K O=>?_
 refine wp_region_lit ?_
 go_wp2
 refine kF_ O (I.out) fun Wx0 J=>?_;clear O K
 clear I;have I:=J;clear J
 have HZ1:Hid (((1:Int):Rat) / ((4:Int):Rat)=(1/4:Rat)):=lh_ (by decide +kernel)
 have su1:sz ((1/4:Rat))≤4:=qd5 (qa4.2 (by decide +kernel)) (qa4.2 (by decide +kernel))
 refine ks1_ fun K O T Y=>?_
 refine ck Tryz.call88 (fun w' hw=>qF6 (1) (4) (1/4:Rat) _ (lh_ HZ1.out) (by decide) om om om om) ?_
 refine nlS Y I fun vw1 J=>?_
 clear Y T I
 go_wp2
 refine kF_ O ((J.out).aL (vw1.heap.size)) fun Wx1 I=>?_;clear O K
 clear J
 generalize vw1.heap.size=gx1 at *
 refine wp_seq ?_
 have HB:=HPb I
 have HZ2:Hid (((2:Int):Rat)=(2:Rat)):=lh_ (by decide +kernel)
 have su2:sz ((2:Rat))≤2:=qd5 (qa4.2 (by decide +kernel)) (qa4.2 (by decide +kernel))
 have HZ3:Hid (((2:Int):Rat)=(2:Rat)):=lh_ (by decide +kernel)
 have su3:sz ((2:Rat))≤2:=qd5 (qa4.2 (by decide +kernel)) (qa4.2 (by decide +kernel))
 have HZ4:Hid (((0:Int):Rat)=(0:Rat)):=lh_ (by decide +kernel)
 have su4:sz ((0:Rat))≤2:=qd5 (qa4.2 (by decide +kernel)) (qa4.2 (by decide +kernel))
 have lx1:=c0_ I
 refine xE5 fun K O T Y=>?_
 refine ck Tryz.call32 (fun w' hw=>qb5 (2) (2:Rat) _ HZ2.out om om) ?_
 refine ck Tryz.call89 (fun w' hw=>qm8 (2:Rat) (1:Rat) (2:Rat) 0 ⟨#[49]⟩ ⟨#[50]⟩ ⟨#[49,32]⟩ ⟨#[49,32,50]⟩ _ (lh_ (by decide +kernel)) (lh_ (by decide +kernel)) (lh_ (by decide +kernel)) (by decide) om (lh_ (by decide +kernel)) (lh_ (by decide +kernel)) (lh_ (by decide +kernel)) (lh_ (by decide +kernel)) (by decide) (by decide) (by decide) (lh_ (HT.out.gr (Gr.trans HB.out hw)))) ?_
 refine tk2_ ?_
 refine ck Tryz.call32 (fun w' hw=>qb5 (2) (2:Rat) _ HZ3.out om om) ?_
 refine ck Tryz.call89 (fun w' hw=>qm8 (2:Rat) (11/8:Rat) (3/2:Rat) 3 ⟨#[49,49,47,56]⟩ ⟨#[51,47,50]⟩ ⟨#[49,49,47,56,32]⟩ ⟨#[49,49,47,56,32,51,47,50]⟩ _ (lh_ (by decide +kernel)) (lh_ (by decide +kernel)) (lh_ (by decide +kernel)) (by decide) om (lh_ (by decide +kernel)) (lh_ (by decide +kernel)) (lh_ (by decide +kernel)) (lh_ (by decide +kernel)) (by decide) (by decide) (by decide) (lh_ (HT.out.gr (Gr.trans HB.out hw)))) ?_
 iterate 4 refine tk ?_
 refine ck Tryz.call89 (fun w' hw=>qm8 (1/4:Rat) (1/2:Rat) (1/2:Rat) 1 ⟨#[49,47,50]⟩ ⟨#[49,47,50]⟩ ⟨#[49,47,50,32]⟩ ⟨#[49,47,50,32,49,47,50]⟩ _ (lh_ (by decide +kernel)) (lh_ (by decide +kernel)) (lh_ (by decide +kernel)) (by decide) om (lh_ (by decide +kernel)) (lh_ (by decide +kernel)) (lh_ (by decide +kernel)) (lh_ (by decide +kernel)) (by decide) (by decide) (by decide) (lh_ (HT.out.gr (Gr.trans HB.out hw)))) ?_
 iterate 4 refine tk ?_
 refine ck Tryz.call89 (fun w' hw=>qm8 (1/4:Rat) (0:Rat) (1:Rat) 0 ⟨#[48]⟩ ⟨#[49]⟩ ⟨#[48,32]⟩ ⟨#[48,32,49]⟩ _ (lh_ (by decide +kernel)) (lh_ (by decide +kernel)) (lh_ (by decide +kernel)) (by decide) om (lh_ (by decide +kernel)) (lh_ (by decide +kernel)) (lh_ (by decide +kernel)) (lh_ (by decide +kernel)) (by decide) (by decide) (by decide) (lh_ (HT.out.gr (Gr.trans HB.out hw)))) ?_
 refine tk3_ ?_
 refine ck Tryz.call32 (fun w' hw=>qb5 (0) (0:Rat) _ HZ4.out om om) ?_
 refine ck Tryz.call89 (fun w' hw=>qm8 (0:Rat) (0:Rat) (0:Rat) 5 ⟨#[48]⟩ ⟨#[48]⟩ ⟨#[48,32]⟩ ⟨#[48,32,48]⟩ _ (lh_ (by decide +kernel)) (lh_ (by decide +kernel)) (lh_ (by decide +kernel)) (by decide) om (lh_ (by decide +kernel)) (lh_ (by decide +kernel)) (lh_ (by decide +kernel)) (lh_ (by decide +kernel)) (by decide) (by decide) (by decide) (lh_ (HT.out.gr (Gr.trans HB.out hw)))) ?_
 refine tk2_ ?_
 refine nlS Y I fun vw2 J=>?_
 clear Y T I lx1 HB
 go_wp2
 refine kF_ O ((J.out).er 0) fun Wx2 I=>?_;clear O K
 clear J
 refine wp_cond_false (by rfl) ?_
 refine wp_skip ?_
 show Code.wp _ _ _ _ _
 have HZ5:Hid (((9:Int):Rat) / ((4:Int):Rat)=(9/4:Rat)):=lh_ (by decide +kernel)
 have su5:sz ((9/4:Rat))≤4:=qd5 (qa4.2 (by decide +kernel)) (qa4.2 (by decide +kernel))
 have HZ6:Hid (exq (9/4:Rat)=(3/2:Rat)):=lh_ (by decide +kernel)
 have su6:sz ((3/2:Rat))≤4:=qd5 (qa4.2 (by decide +kernel)) (qa4.2 (by decide +kernel))
 refine ks5_ fun K O T Y=>?_
 refine ck Tryz.call88 (fun w' hw=>qF6 (9) (4) (9/4:Rat) _ (lh_ HZ5.out) (by decide) om om om om) ?_
 refine ck Tryz.call33 (fun w' hw=>qh2 (9/4:Rat) (3/2:Rat) _ HZ6.out (by first|exact ok|decide +kernel) om) ?_
 refine tk3_ ?_
 refine nlS Y I fun vw3 J=>?_
 clear Y T I
 go_wp2
 refine kF_ O ((J.out).aL (vw3.heap.size)) fun Wx4 I=>?_;clear O K
 clear J
 generalize vw3.heap.size=gx2 at *
 have HZ7:Hid (((2:Int):Rat)=(2:Rat)):=lh_ (by decide +kernel)
 have su7:sz ((2:Rat))≤2:=qd5 (qa4.2 (by decide +kernel)) (qa4.2 (by decide +kernel))
 refine ks5_ fun K O T Y=>?_
 refine ck Tryz.call32 (fun w' hw=>qb5 (2) (2:Rat) _ HZ7.out om om) ?_
 refine ck Tryz.call33 (fun w' hw=>qi_ (2:Rat) _ _ rfl (by first|exact ok|decide +kernel) om) ?_
 refine tk3_ ?_
 refine nlS Y I fun vw4 J=>?_
 clear Y T I
 go_wp2
 refine kF_ O (((J.out).aL (vw4.heap.size)).er 1) fun Wx5 I=>?_;clear O K
 clear J
 generalize vw4.heap.size=gx3 at *
 have HZ8:Hid (((0:Int):Rat)=(0:Rat)):=lh_ (by decide +kernel)
 have su8:sz ((0:Rat))≤2:=qd5 (qa4.2 (by decide +kernel)) (qa4.2 (by decide +kernel))
 have HZ9:Hid (exq (0:Rat)=(0:Rat)):=lh_ (by decide +kernel)
 have su9:sz ((0:Rat))≤2:=qd5 (qa4.2 (by decide +kernel)) (qa4.2 (by decide +kernel))
 refine ks5_ fun K O T Y=>?_
 refine ck Tryz.call32 (fun w' hw=>qb5 (0) (0:Rat) _ HZ8.out om om) ?_
 refine ck Tryz.call33 (fun w' hw=>qh2 (0:Rat) (0:Rat) _ HZ9.out (by first|exact ok|decide +kernel) om) ?_
 refine tk3_ ?_
 refine nlS Y I fun vw5 J=>?_
 clear Y T I
 go_wp2
 refine kF_ O ((J.out).aL (vw5.heap.size)) fun Wx6 I=>?_;clear O K
 clear J
 generalize vw5.heap.size=gx4 at *
 have HZ10:Hid (((-4:Int):Rat)=(-4:Rat)):=lh_ (by decide +kernel)
 have su10:sz ((-4:Rat))≤2:=qd5 (qa4.2 (by decide +kernel)) (qa4.2 (by decide +kernel))
 refine ks5_ fun K O T Y=>?_
 refine ck Tryz.call32 (fun w' hw=>qb5 (-4) (-4:Rat) _ HZ10.out om om) ?_
 refine ck Tryz.call33 (fun w' hw=>qi_ (-4:Rat) _ _ rfl (by first|exact ok|decide +kernel) om) ?_
 refine tk3_ ?_
 refine nlS Y I fun vw6 J=>?_
 clear Y T I
 go_wp2
 refine kF_ O (((J.out).aL (vw6.heap.size)).er 2) fun Wx7 I=>?_;clear O K
 clear J
 generalize vw6.heap.size=gx5 at *
 have HB:=HPb I
 have lx2:=c0_ I
 have lx4:=c1_ I
 refine kS fun K O=>?_
 have HG0:Hid (Gr Wx7 Wx7):=lh_ (Gr.refl _)
 refine xD7 fun T Y=>?_
 refine tk ?_
 refine ck Tryz.call90 (fun w' hw=>qv6 (3/2:Rat) ⟨#[51,47,50]⟩ true _ (lh_ (by decide +kernel)) om (lh_ (HT.out.gr (Gr.trans HB.out hw)))) ?_
 iterate 9 refine tk ?_
 refine ck Tryz.call90 (fun w' hw=>qv6 (0:Rat) ⟨#[48]⟩ true _ (lh_ (by decide +kernel)) om (lh_ (HT.out.gr (Gr.trans HB.out hw)))) ?_
 iterate 9 refine tk ?_
 refine qe2 (cs:=#[.int .i64 4]) (E:=2) (n:=1) rfl (by rfl) (fun w' hw=>?_) (fun gx6 vv6 hg0 yx6 bx6=>?_)
 ·go_simp
 clear yx6
 replace HG0:=lh_ (HG0.out.trans hg0)
 have HGS:=lh_ hg0;clear hg0
 replace HB:=lh_ (HB.out.trans (HGS.out.mono HB.out.size))
 clear HGS
 have BX6:=lh_ bx6;clear bx6
 clear lx2;have lx2:=fun w' (h:Gr _ w')=>c0_ I w' (HG0.out.trans h)
 clear lx4;have lx4:=fun w' (h:Gr _ w')=>c1_ I w' (HG0.out.trans h)
 simp only [Act.put,lA,lB,lC]
 refine ck Tryz.call91 (fun w' hw=>qz_ 1 1 4 (1:Rat) (1:Rat) (4:Rat) (0) gx6 _ (lh_ (by decide +kernel)) (lh_ (by decide +kernel)) (by decide) (by decide) (by decide) (by decide) (lh_ (by decide +kernel)) (lh_ (by decide +kernel)) (lh_ (by decide +kernel)) (lh_ (by decide +kernel)) (by decide) (by decide) (qd5 (qa4.2 (by decide +kernel)) (qa4.2 (by decide +kernel))) (lh_ (by decide +kernel)) (BX6.out.gr hw) (lh_ (by decide +kernel))) ?_
 refine tk3_ ?_
 refine qe2 (cs:=#[.int .i64 5]) (E:=2) (n:=1) rfl (by rfl) (fun w' hw=>?_) (fun gx7 vv7 hg0 yx7 bx7=>?_)
 ·go_simp
 clear yx7
 replace HG0:=lh_ (HG0.out.trans hg0)
 have HGS:=lh_ hg0;clear hg0
 replace BX6:=lh_ (BX6.out.gr HGS.out)
 replace HB:=lh_ (HB.out.trans (HGS.out.mono HB.out.size))
 clear HGS
 have BX7:=lh_ bx7;clear bx7
 clear lx2;have lx2:=fun w' (h:Gr _ w')=>c0_ I w' (HG0.out.trans h)
 clear lx4;have lx4:=fun w' (h:Gr _ w')=>c1_ I w' (HG0.out.trans h)
 simp only [Act.put,lA,lB,lC]
 refine ck Tryz.call91 (fun w' hw=>qz_ 2 3 5 (2:Rat) (3:Rat) (5:Rat) (1) gx7 _ (lh_ (by decide +kernel)) (lh_ (by decide +kernel)) (by decide) (by decide) (by decide) (by decide) (lh_ (by decide +kernel)) (lh_ (by decide +kernel)) (lh_ (by decide +kernel)) (lh_ (by decide +kernel)) (by decide) (by decide) (qd5 (qa4.2 (by decide +kernel)) (qa4.2 (by decide +kernel))) (lh_ (by decide +kernel)) (BX7.out.gr hw) (lh_ (by decide +kernel))) ?_
 refine tk3_ ?_
 refine qe2 (cs:=#[.int .i64 10]) (E:=2) (n:=1) rfl (by rfl) (fun w' hw=>?_) (fun gx8 vv8 hg0 yx8 bx8=>?_)
 ·go_simp
 clear yx8
 replace HG0:=lh_ (HG0.out.trans hg0)
 have HGS:=lh_ hg0;clear hg0
 replace BX6:=lh_ (BX6.out.gr HGS.out)
 replace BX7:=lh_ (BX7.out.gr HGS.out)
 replace HB:=lh_ (HB.out.trans (HGS.out.mono HB.out.size))
 clear HGS
 have BX8:=lh_ bx8;clear bx8
 clear lx2;have lx2:=fun w' (h:Gr _ w')=>c0_ I w' (HG0.out.trans h)
 clear lx4;have lx4:=fun w' (h:Gr _ w')=>c1_ I w' (HG0.out.trans h)
 simp only [Act.put,lA,lB,lC]
 refine ck Tryz.call91 (fun w' hw=>qz_ 2 3 10 (2:Rat) (3:Rat) (10:Rat) (-1) gx8 _ (lh_ (by decide +kernel)) (lh_ (by decide +kernel)) (by decide) (by decide) (by decide) (by decide) (lh_ (by decide +kernel)) (lh_ (by decide +kernel)) (lh_ (by decide +kernel)) (lh_ (by decide +kernel)) (by decide) (by decide) (qd5 (qa4.2 (by decide +kernel)) (qa4.2 (by decide +kernel))) (lh_ (by decide +kernel)) (BX8.out.gr hw) (lh_ (by decide +kernel))) ?_
 refine tk3_ ?_
 refine ck Tryz.call91 (fun w' hw=>xs1 1 0 (1:Rat) (0:Rat) _ (lh_ (by decide +kernel)) (lh_ (by decide +kernel)) (by decide) (by decide) (by decide) (by decide) (lh_ (by decide +kernel)) (lh_ (by decide +kernel)) (lh_ (by decide +kernel))) ?_
 refine tk3_ ?_
 refine qe2 (cs:=#[.int .i64 8]) (E:=2) (n:=1) rfl (by rfl) (fun w' hw=>?_) (fun gx9 vv9 hg0 yx9 bx9=>?_)
 ·go_simp
 clear yx9
 replace HG0:=lh_ (HG0.out.trans hg0)
 have HGS:=lh_ hg0;clear hg0
 replace BX6:=lh_ (BX6.out.gr HGS.out)
 replace BX7:=lh_ (BX7.out.gr HGS.out)
 replace BX8:=lh_ (BX8.out.gr HGS.out)
 replace HB:=lh_ (HB.out.trans (HGS.out.mono HB.out.size))
 clear HGS
 have BX9:=lh_ bx9;clear bx9
 clear lx2;have lx2:=fun w' (h:Gr _ w')=>c0_ I w' (HG0.out.trans h)
 clear lx4;have lx4:=fun w' (h:Gr _ w')=>c1_ I w' (HG0.out.trans h)
 simp only [Act.put,lA,lB,lC]
 refine ck Tryz.call91 (fun w' hw=>qz_ 2 2 8 (2:Rat) (2:Rat) (8:Rat) (0) gx9 _ (lh_ (by decide +kernel)) (lh_ (by decide +kernel)) (by decide) (by decide) (by decide) (by decide) (lh_ (by decide +kernel)) (lh_ (by decide +kernel)) (lh_ (by decide +kernel)) (lh_ (by decide +kernel)) (by decide) (by decide) (qd5 (qa4.2 (by decide +kernel)) (qa4.2 (by decide +kernel))) (lh_ (by decide +kernel)) (BX9.out.gr hw) (lh_ (by decide +kernel))) ?_
 refine tk3_ ?_
 refine qa1 (Y.out _ _ ?_)
 intro vw7 hg
 simp only [puts,Act.put,lA,lB,lC,lD,lE,↓reduceIte,Nat.reduceEqDiff]
 have J:=lh_ (I.out.gr (HG0.out.trans hg))
 clear Y T I hg HG0 BX6 BX7 BX8 BX9 lx2 lx4 HB
 go_wp2
 refine kF_ O (((J.out).er 1).er 0) fun Wx8 I=>?_;clear O K
 clear J
 refine wp_ret ?_
 try simp only [Exit.then,Exit.inBlock]
 exact bodyPost_ret (v:=.bool true) (by simp [results,Tryz.results22,go_sem]) rfl ⟨rfl,I.out.1⟩
end Go.Proofs.YtaflakcemiilaaaGreatDoor

set_option linter.unusedVariables false
set_option linter.unusedSimpArgs false
namespace Go.Proofs.YtaflakcemiilaaaGreatDoor
open Go.RowKit
attribute [local go_sem ↓] Go.wp_at_zero Go.wp_at_succ
end Go.Proofs.YtaflakcemiilaaaGreatDoor

set_option linter.unusedVariables false
set_option linter.unusedSimpArgs false
namespace Go.Proofs.YtaflakcemiilaaaGreatDoor
open Go.RowKit
attribute [local go_sem ↓] Go.wp_at_zero Go.wp_at_succ
attribute [local go_sem ↓] qd6 qa7 qf4
end Go.Proofs.YtaflakcemiilaaaGreatDoor

set_option maxRecDepth 100000
set_option maxHeartbeats 16000000
set_option linter.unusedVariables false
set_option linter.unusedSimpArgs false
namespace Go.Proofs.YtaflakcemiilaaaGreatDoor
section
open Go.RowKit
attribute [local go_sem ↓] Go.wp_at_zero Go.wp_at_succ
theorem qt8 (n m:Int) (h1:-9223372036854775808≤n) (h2:n≤9223372036854775807) (h3:-9223372036854775808≤m) (h4:m≤9223372036854775807):rz ((n:Rat) / (m:Rat))≤10:=by
 have:=xx4 (n:Rat) (m:Rat)
 have:=qJ0 h1 h2
 have:=qJ0 h3 h4
 omega
theorem xB7 (n d m:Int) (z:Rat) (w:World) (HM:Hid (max d 1=m)) (HZ:Hid ((n:Rat) / (m:Rat)=z)) (h1:-9223372036854775808≤n) (h2:n≤9223372036854775807) (h3:0≤d) (h4:d≤4294967295)  :
  Calls Tryz.prog 27 #[(Value.agg #[.int .i64 n,.int .u32 d])] w fun e w'=>(∃ r1 r2:Value,e=.returned (.agg #[.bool (decide (z.num<0)),r1,r2])∧Rn w' r1 z.num.natAbs∧Rn w' r2 (z.den - 1))∧Below w.heap.size w w':=by
 have hm0:=HM.out
 have hm1:1≤m:=by omega
 have hm2:m≤4294967295:=by omega
 have hwm:IntKind.i64.wrap m=m:=by rw [IntKind.wrap_i64];omega
 go_enter Tryz.func27,Tryz.ntmps27
 have I:=lh_ (hp0 w)
 refine kS fun K O=>?_
 refine wp_region_lit ?_
 go_wp2
 refine kF_ O (((I.out).aL (w.heap.size)).aL (w.heap.size+1)) fun Wx0 J=>?_;clear O K
 clear I;have I:=J;clear J
 generalize w.heap.size+1=gx1 at *
 have HZ1:Hid (((n:Int):Rat) / ((m:Int):Rat)=z):=lh_ (HZ.out)
 have su1:rz z≤10:=by have e:=HZ1.out;first|omega|(rw [← e];exact qt8 n m om om om om)
 have lx0:=c0_ I
 refine kS fun K O=>?_
 have HG0:Hid (Gr Wx0 Wx0):=lh_ (Gr.refl _)
 refine xl5 fun T Y=>?_
 iterate 6 refine tk ?_
 refine qa0 rfl (by rfl) Tryz.call102 (by rfl) (fun w' hw=>(qy6 n m z _ HZ1.out om om om om).mono ?_)
 rintro e vv3 ⟨⟨rv1,rv2,rfl,bx3,bx4⟩,hg0⟩
 obtain ⟨ao1,nn1,cc1,rfl⟩:=Rn.sl bx3
 obtain ⟨ao2,nn2,cc2,rfl⟩:=Rn.sl bx4
 refine ⟨_,rfl,hg0,?_⟩
 replace hg0:=Gr.trans hw hg0;clear hw
 replace HG0:=lh_ (HG0.out.trans hg0)
 have HGS:=lh_ hg0;clear hg0
 clear HGS
 have RN3:=lh_ bx3;clear bx3
 have RN4:=lh_ bx4;clear bx4
 clear lx0;have lx0:=fun w' (h:Gr _ w')=>c0_ I w' (HG0.out.trans h)
 simp only [Act.put,lA,lB,lC]
 refine qa1 (Y.out _ _ ?_)
 intro vw1 hg
 simp only [puts,Act.put,lA,lB,lC,lD,lE,↓reduceIte,Nat.reduceEqDiff]
 have J:=lh_ (((I.out.gr (HG0.out.trans hg)).ar (RN3.out.gr hg)).ar (RN4.out.gr hg))
 simp only [zq1_,zq2_,zq3_,zq4_,lF,lG] at J
 clear Y T I hg HG0 RN3 RN4 lx0
 have lx1:=c1_ J;have fx1:=f1_ J
 have r0:=Gr.refl vw1
 go_wp2
 refine kO O ?_;clear O K
 clear r0 lx1 fx1
 refine fH ((((J.out).put2 1 0 rfl).put 1 2 _ rfl).er 0) fun Wx1 I=>?_
 clear J
 refine wp_ret ?_
 try simp only [Exit.then,Exit.inBlock]
 have lx1:=c0_ I
 have r0:=Gr.refl Wx1
 exact bodyPost_ret (v:=.agg #[.bool (decide (z.num<0)),(.slice ao1 nn1 cc1),(.slice ao2 nn2 cc2)]) (by simp [results,Tryz.results27,go_sem,lx1 _ r0]) rfl ⟨⟨(.slice ao1 nn1 cc1),(.slice ao2 nn2 cc2),rfl,(I.out.rn 1 rfl),(I.out.rn 2 rfl)⟩,I.out.1⟩
theorem qy3 (n d:Int) (z:Rat) (w:World) (hz:qv n d=z) (h1:-9223372036854775808≤n) (h2:n≤9223372036854775807) (h3:0≤d) (h4:d≤4294967295) :
  Calls Tryz.prog 27 #[.agg #[.int .i64 n,.int .u32 d]] w fun e w'=>(∃ r1 r2:Value,e=.returned (.agg #[.bool (decide (z.num<0)),r1,r2])∧Rn w' r1 z.num.natAbs∧Rn w' r2 (z.den - 1))∧Below w.heap.size w w':=xB7 n d (max d 1) z w (lh_ rfl) (lh_ hz) h1 h2 h3 h4
theorem qR3 (n d:Int) (h1:-9223372036854775808≤n) (h2:n≤9223372036854775807) (h3:0≤d) (h4:d≤4294967295):rz (qv n d)≤10:=qt8 n (max d 1) h1 h2 om om
end
section
open Go.RowKit
attribute [local go_sem ↓] Go.wp_at_zero Go.wp_at_succ
end
end Go.Proofs.YtaflakcemiilaaaGreatDoor

set_option maxRecDepth 100000
set_option maxHeartbeats 16000000
set_option linter.unusedVariables false
set_option linter.unusedSimpArgs false
namespace Go.Proofs.YtaflakcemiilaaaGreatDoor
open Go.RowKit
attribute [local go_sem ↓] Go.wp_at_zero Go.wp_at_succ
attribute [local go_sem ↓] qd6 qa7 qf4
theorem qh6 (a z:Rat) (va1 va2:Value) (w:World) (HZ:Hid (a*a=z)) (hs:rz a≤100000) (bx21:Rn w va1 a.num.natAbs) (bx22:Rn w va2 (a.den - 1)) :
  Calls Tryz.prog 99 #[(Value.agg #[.bool (decide (a.num<0)),va1,va2])] w fun e w'=>(∃ r1 r2:Value,e=.returned (.agg #[.bool (decide (z.num<0)),r1,r2])∧Rn w' r1 z.num.natAbs∧Rn w' r2 (z.den - 1))∧Below w.heap.size w w':=by
 obtain ⟨ao_va1,n_va1,c_va1,rfl⟩:=Rn.sl bx21
 obtain ⟨ao_va2,n_va2,c_va2,rfl⟩:=Rn.sl bx22
 go_enter Tryz.func99,Tryz.ntmps99
 have I:=lh_ (hp0 w)
 replace I:=lh_ ((I.out.ar bx21).ar bx22)
 simp only [lF,lG] at I
 clear bx21 bx22
 refine kS fun K O=>?_
 refine wp_region_lit ?_
 go_wp2
 refine kF_ O (((I.out).aL (w.heap.size)).aL (w.heap.size+1)) fun Wx0 J=>?_;clear O K
 clear I;have I:=J;clear J
 generalize w.heap.size+1=gx24 at *
 have HZ1:Hid (a*(a)=z):=lh_ (HZ.out)
 have su1:rz z≤200000:=by have e:=HZ1.out;first|omega|(rw [← e];have:=qk0 a a;omega)
 have lx23:=c2_ I
 refine kS fun K O=>?_
 have HG0:Hid (Gr Wx0 Wx0):=lh_ (Gr.refl _)
 refine qq9 fun T Y=>?_
 refine tk2_ ?_
 refine qa0 rfl (by rfl) Tryz.call132 (by rfl) (fun w' hw=>(qo2 a a z _ _ _ _ _ HZ1.out om om (I.out.r 0 rfl (HG0.out.trans hw)) (I.out.r 1 rfl (HG0.out.trans hw)) (I.out.r 0 rfl (HG0.out.trans hw)) (I.out.r 1 rfl (HG0.out.trans hw))).mono ?_)
 rintro e vv26 ⟨⟨rv1,rv2,rfl,bx26,bx27⟩,hg0⟩
 obtain ⟨ao1,nn1,cc1,rfl⟩:=Rn.sl bx26
 obtain ⟨ao2,nn2,cc2,rfl⟩:=Rn.sl bx27
 refine ⟨_,rfl,hg0,?_⟩
 replace hg0:=Gr.trans hw hg0;clear hw
 replace HG0:=lh_ (HG0.out.trans hg0)
 have HGS:=lh_ hg0;clear hg0
 clear HGS
 have RN26:=lh_ bx26;clear bx26
 have RN27:=lh_ bx27;clear bx27
 clear lx23;have lx23:=fun w' (h:Gr _ w')=>c2_ I w' (HG0.out.trans h)
 simp only [Act.put,lA,lB,lC]
 refine qa1 (Y.out _ _ ?_)
 intro vw1 hg
 simp only [puts,Act.put,lA,lB,lC,lD,lE,↓reduceIte,Nat.reduceEqDiff]
 have J:=lh_ (((I.out.gr (HG0.out.trans hg)).ar (RN26.out.gr hg)).ar (RN27.out.gr hg))
 simp only [zq1_,zq2_,zq3_,zq4_,lF,lG] at J
 clear Y T I hg HG0 RN26 RN27 lx23
 have lx24:=c3_ J;have fx24:=f3_ J
 have r0:=Gr.refl vw1
 go_wp2
 refine kO O ?_;clear O K
 clear r0 lx24 fx24
 refine fH ((((((J.out).put2 3 0 rfl).put 3 2 _ rfl).er 2).er 1).er 0) fun Wx1 I=>?_
 clear J
 refine wp_ret ?_
 try simp only [Exit.then,Exit.inBlock]
 have lx24:=c0_ I
 have r0:=Gr.refl Wx1
 exact bodyPost_ret (v:=.agg #[.bool (decide (z.num<0)),(.slice ao1 nn1 cc1),(.slice ao2 nn2 cc2)]) (by simp [results,Tryz.results99,go_sem,lx24 _ r0]) rfl ⟨⟨(.slice ao1 nn1 cc1),(.slice ao2 nn2 cc2),rfl,(I.out.rn 1 rfl),(I.out.rn 2 rfl)⟩,I.out.1⟩
theorem xt2 (a b:Rat) (va1 va2 vb1 vb2:Value) (w:World) (HE:Hid (a=b)) (hs:rz a≤100000) (hsb:rz b≤100000) (bx21:Rn w va1 a.num.natAbs) (bx22:Rn w va2 (a.den - 1)) (bx23:Rn w vb1 b.num.natAbs) (bx24:Rn w vb2 (b.den - 1)) :
  Calls Tryz.prog 98 #[(Value.agg #[.bool (decide (a.num<0)),va1,va2]),(Value.agg #[.bool (decide (b.num<0)),vb1,vb2])] w fun e w'=>e=.returned ((.bool true))∧Below w.heap.size w w':=by
 obtain ⟨ao_va1,n_va1,c_va1,rfl⟩:=Rn.sl bx21
 obtain ⟨ao_va2,n_va2,c_va2,rfl⟩:=Rn.sl bx22
 obtain ⟨ao_vb1,n_vb1,c_vb1,rfl⟩:=Rn.sl bx23
 obtain ⟨ao_vb2,n_vb2,c_vb2,rfl⟩:=Rn.sl bx24
 go_enter Tryz.func98,Tryz.ntmps98
 have I:=lh_ (hp0 w)
 replace I:=lh_ ((((I.out.ar bx21).ar bx22).ar bx23).ar bx24)
 simp only [lF,lG] at I
 clear bx21 bx22 bx23 bx24
 refine kS fun K O=>?_
 refine wp_region_lit ?_
 go_wp2
 refine kF_ O (((I.out).aL (w.heap.size)).aL (w.heap.size+1)) fun Wx0 J=>?_;clear O K
 clear I;have I:=J;clear J
 generalize w.heap.size+1=gx26 at *
 have lx25:=c4_ I
 have lx26:=c5_ I
 refine ks5_ fun K O T Y=>?_
 refine tk2_ ?_
 refine ck Tryz.call130 (fun w' hw=>qi7 a b (0) _ _ _ _ _ (by have e9:(a) - b=(0:Rat):=(by first|exact ok|(rw [HE.out];exact Rat.sub_self));exact qe9 e9) om om (I.out.r 0 rfl hw) (I.out.r 1 rfl hw) (I.out.r 2 rfl hw) (I.out.r 3 rfl hw)) ?_
 refine tk2_ ?_
 refine nlS Y I fun vw1 J=>?_
 clear Y T I lx25 lx26
 go_wp2
 refine kF_ O (((((((J.out).er 5).er 4).er 3).er 2).er 1).er 0) fun Wx1 I=>?_;clear O K
 clear J
 refine wp_ret ?_
 try simp only [Exit.then,Exit.inBlock]
 exact bodyPost_ret (v:=.bool true) (by simp [results,Tryz.results98,go_sem]) rfl ⟨rfl,I.out.1⟩
theorem xr7 (a b:Rat) (c:Int) (va1 va2 vb1 vb2:Value) (w:World) (HE:Hid (¬ a=b)) (hs:rz a≤100000) (hsb:rz b≤100000) (HC:Hid (sgQ (a - b)=c)) (hc:¬ c=0) (bx21:Rn w va1 a.num.natAbs) (bx22:Rn w va2 (a.den - 1)) (bx23:Rn w vb1 b.num.natAbs) (bx24:Rn w vb2 (b.den - 1)) :
  Calls Tryz.prog 98 #[(Value.agg #[.bool (decide (a.num<0)),va1,va2]),(Value.agg #[.bool (decide (b.num<0)),vb1,vb2])] w fun e w'=>e=.returned ((.bool false))∧Below w.heap.size w w':=by
 obtain ⟨ao_va1,n_va1,c_va1,rfl⟩:=Rn.sl bx21
 obtain ⟨ao_va2,n_va2,c_va2,rfl⟩:=Rn.sl bx22
 obtain ⟨ao_vb1,n_vb1,c_vb1,rfl⟩:=Rn.sl bx23
 obtain ⟨ao_vb2,n_vb2,c_vb2,rfl⟩:=Rn.sl bx24
 go_enter Tryz.func98,Tryz.ntmps98
 have I:=lh_ (hp0 w)
 replace I:=lh_ ((((I.out.ar bx21).ar bx22).ar bx23).ar bx24)
 simp only [lF,lG] at I
 clear bx21 bx22 bx23 bx24
 refine kS fun K O=>?_
 refine wp_region_lit ?_
 go_wp2
 refine kF_ O (((I.out).aL (w.heap.size)).aL (w.heap.size+1)) fun Wx0 J=>?_;clear O K
 clear I;have I:=J;clear J
 generalize w.heap.size+1=gx26 at *
 have hd1:(c == (0))=false:=by have:¬ (c=0):=(by first|exact ok|(rw [HE.out];exact Rat.sub_self));simpa using this
 have lx25:=c4_ I
 have lx26:=c5_ I
 refine ks5_ fun K O T Y=>?_
 refine tk2_ ?_
 refine ck Tryz.call130 (fun w' hw=>qi7 a b c _ _ _ _ _ (HC.out) om om (I.out.r 0 rfl hw) (I.out.r 1 rfl hw) (I.out.r 2 rfl hw) (I.out.r 3 rfl hw)) ?_
 refine tk2_ ?_
 refine nlS Y I fun vw1 J=>?_
 clear Y T I lx25 lx26
 go_wp2
 refine kF_ O (((((((J.out).er 5).er 4).er 3).er 2).er 1).er 0) fun Wx1 I=>?_;clear O K
 clear J
 clear hd1
 refine wp_ret ?_
 try simp only [Exit.then,Exit.inBlock]
 exact bodyPost_ret (v:=.bool false) (by simp [results,Tryz.results98,go_sem]) rfl ⟨rfl,I.out.1⟩
theorem qY7 (a b:Rat) (va1 va2 vb1 vb2:Value) (w:World) (h:¬ a=b) (hs:rz a≤100000) (hsb:rz b≤100000) (h1:Rn w va1 a.num.natAbs) (h2:Rn w va2 (a.den - 1)) (h3:Rn w vb1 b.num.natAbs) (h4:Rn w vb2 (b.den - 1)) :
  Calls Tryz.prog 98 #[.agg #[.bool (decide (a.num<0)),va1,va2],.agg #[.bool (decide (b.num<0)),vb1,vb2]] w fun e w'=>e=.returned (.bool false)∧Below w.heap.size w w' :=
 xr7 a b _ va1 va2 vb1 vb2 w (lh_ h) hs hsb (lh_ rfl) (xp4 h) h1 h2 h3 h4
theorem qn8 (i:Nat):hq (i+1)=hq i*(1 / 2:Rat):=by unfold hq;rw [Rat.pow_succ]
theorem qG2:hq 0=1:=by unfold hq;rw [Rat.pow_zero]
theorem xi1 (i j:Nat):hq (i+j)=hq i*hq j:=by
 induction j with
 | zero=>rw [Nat.add_zero,qG2,Rat.mul_one]
 | succ j ih=>rw [← Nat.add_assoc,qn8,ih,qn8,Rat.mul_assoc]
theorem xg2 {k:Nat} (h:k≤142):rz (hq k)≤12:=by
 unfold hq
 refine qv_ ?_ ?_
 ·rw [Rat.num_pow,show (1 / 2:Rat).num=1 from by decide +kernel,Int.one_pow];exact qg6.2 (by decide +kernel)
 ·rw [Rat.den_pow,show (1 / 2:Rat).den=2 from by decide +kernel]
  exact Nat.le_trans (qe1 (Nat.pow_le_pow_right (by decide) h)) (qg6.2 (by decide +kernel))
theorem xv0 {k:Nat} (h:k≤40):rz (tq k)≤4:=by
 unfold tq
 exact qv_ (by rw [show ((((2 ^ k:Nat):Int):Rat)).num=((2 ^ k:Nat):Int) from rfl,Int.natAbs_natCast];exact Nat.le_trans (qe1 (Nat.pow_le_pow_right (by decide) h)) (qg6.2 (by decide +kernel))) (by show tw 1≤4;exact qg6.2 (by decide +kernel))
theorem qD4 (z:Rat) (k:Nat) (w:World) (HZ:Hid (hq k=z)) (hk:k≤100)  :
  Calls Tryz.prog 101 #[.int .i64 (((k:Nat):Int))] w fun e w'=>(∃ r1 r2:Value,e=.returned (.agg #[.bool (decide (z.num<0)),r1,r2])∧Rn w' r1 z.num.natAbs∧Rn w' r2 (z.den - 1))∧Below w.heap.size w w':=by
 go_enter Tryz.func101,Tryz.ntmps101
 have I:=lh_ (hp0 w)
 refine kS fun K O=>?_
 refine wp_region_lit ?_
 go_wp2
 refine kF_ O ((I.out).aL (w.heap.size)) fun Wx0 J=>?_;clear O K
 clear I;have I:=J;clear J
 have HZ1:Hid (((1:Int):Rat)=(1:Rat)):=lh_ (by decide +kernel)
 have su1:rz ((1:Rat))≤5:=qv_ (qg6.2 (by decide +kernel)) (qg6.2 (by decide +kernel))
 refine kS fun K O=>?_
 have HG0:Hid (Gr Wx0 Wx0):=lh_ (Gr.refl _)
 refine qO_ fun T Y=>?_
 refine qa0 rfl (by rfl) Tryz.call161 (by rfl) (fun w' hw=>(qt2 (1) (1:Rat) _ HZ1.out om om).mono ?_)
 rintro e vv2 ⟨⟨rv1,rv2,rfl,bx2,bx3⟩,hg0⟩
 obtain ⟨ao1,nn1,cc1,rfl⟩:=Rn.sl bx2
 obtain ⟨ao2,nn2,cc2,rfl⟩:=Rn.sl bx3
 refine ⟨_,rfl,hg0,?_⟩
 replace hg0:=Gr.trans hw hg0;clear hw
 replace HG0:=lh_ (HG0.out.trans hg0)
 have HGS:=lh_ hg0;clear hg0
 clear HGS
 have RN2:=lh_ bx2;clear bx2
 have RN3:=lh_ bx3;clear bx3
 simp only [Act.put,lA,lB,lC]
 refine qa1 (Y.out _ _ ?_)
 intro vw1 hg
 simp only [puts,Act.put,lA,lB,lC,lD,lE,↓reduceIte,Nat.reduceEqDiff]
 have J:=lh_ (((I.out.gr (HG0.out.trans hg)).ar (RN2.out.gr hg)).ar (RN3.out.gr hg))
 simp only [zq1_,zq2_,zq3_,zq4_,lF,lG] at J
 clear Y T I hg HG0 RN2 RN3
 go_wp2
 refine kF_ O ((J.out).aL (vw1.heap.size)) fun Wx1 I=>?_;clear O K
 clear J
 generalize vw1.heap.size=gx4 at *
 refine wp_seq ?_
 refine kS fun K O=>?_
 refine wp_region_lit ?_
 go_wp2
 refine kF_ O (I.out) fun Wx2 J=>?_;clear O K
 clear I;have I:=J;clear J
 refine wp_block ?_
 replace I:=lh_ ((I.out.er 1).ar (I.out.rn 1 rfl))
 simp only [List.eraseIdx_cons_zero,List.eraseIdx_cons_succ,List.cons_append,List.nil_append] at I
 replace I:=lh_ ((I.out.er 1).ar (I.out.rn 1 rfl))
 simp only [List.eraseIdx_cons_zero,List.eraseIdx_cons_succ,List.cons_append,List.nil_append] at I
 go_loopg [4] k (fun kk iv wr=>∃ (i:Nat) (q:Rat) (vA1 vA2:Value),iv=.int .i64 (i:Int)∧i+kk=k∧Hid (hq i=q)∧Hid (HP w wr [Sum.inl (w.heap.size,47,#[.bool false,.slice none 0 0,.slice none 0 0]),Sum.inl (gx4,47,#[.bool (decide (q.num<0)),vA1,vA2]),Sum.inr (vA1,Int.natAbs (q.num)),Sum.inr (vA2,q.den - 1)]))
 case atStart=>exact ⟨0,1,_,_,rfl,by omega,lh_ (by unfold hq;rw [Rat.pow_zero]),I⟩
 case round =>
  rename_i J_ K_ hj1_ hj0_
  clear I
  obtain ⟨i,q,vA1,vA2,rfl,hik,HQ,I⟩:=hrel
  obtain ⟨aoA1,nnA1,ccA1,rfl⟩:=Rn.sl (I.out.rn 2 rfl)
  obtain ⟨aoA2,nnA2,ccA2,rfl⟩:=Rn.sl (I.out.rn 3 rfl)
  have hsq:rz q≤12:=by rw [← HQ.out];exact xg2 om
  rcases gk with _|kk
  ·obtain rfl:k=i:=by omega
   have HE:Hid (z=q):=lh_ (by rw [← HZ.out];exact HQ.out)
   obtain rfl:=HE.out
   clear HE
   refine wp_seq ?_
   have hlt9:¬ (k:Int)<(k:Int):=by omega
   refine ks3_ fun K O T Y=>?_
   refine tk3_ ?_
   refine nlS Y I fun vw2 J=>?_
   clear Y T I
   go_wp2
   refine kO O ?_;clear O K
   have I:=J;clear J
   clear hlt9
   refine wp_cond_false (by rfl) ?_
   refine wp_exit ?_
   show Code.wp _ _ _ _ _
   have lx4:=c1_ I
   refine ks1_ fun K O T Y=>?_
   refine tk ?_
   refine nlS Y I fun vw3 J=>?_
   clear Y T I lx4
   have lx0:=c0_ J;have fx0:=f0_ J
   have r0:=Gr.refl vw3
   go_wp2
   refine kO O ?_;clear O K
   clear r0 lx0 fx0
   refine fH ((((J.out).put2 0 0 rfl).put 0 2 _ rfl).er 1) fun Wx6 I=>?_
   clear J
   refine wp_ret ?_
   try simp only [Exit.then,Exit.inBlock]
   have lx0:=c0_ I
   have r0:=Gr.refl Wx6
   exact bodyPost_ret (v:=.agg #[.bool (decide (z.num<0)),(.slice aoA1 nnA1 ccA1),(.slice aoA2 nnA2 ccA2)]) (by simp [results,Tryz.results101,go_sem,lx0 _ r0]) rfl ⟨⟨(.slice aoA1 nnA1 ccA1),(.slice aoA2 nnA2 ccA2),rfl,(I.out.rn 1 rfl),(I.out.rn 2 rfl)⟩,I.out.1⟩
  ·obtain ⟨q',HQ'⟩:∃ z,Hid (q*(1 / 2:Rat)=z):=⟨_,lh_ rfl⟩
   refine wp_seq ?_
   have hlt9:(i:Int)<(k:Int):=by omega
   refine ks3_ fun K O T Y=>?_
   refine tk3_ ?_
   refine nlS Y I fun vw2 J=>?_
   clear Y T I
   go_wp2
   refine kO O ?_;clear O K
   have I:=J;clear J
   clear hlt9
   refine wp_cond_true (by rfl) ?_
   refine wp_skip ?_
   show Code.wp _ _ _ _ _
   refine wp_seq ?_
   refine wp_block ?_
   have HZ2:Hid (((1:Int):Rat) / ((2:Int):Rat)=(1 / 2:Rat)):=lh_ (by decide +kernel)
   have su2:rz ((1 / 2:Rat))≤10:=by have e:=HZ2.out;first|omega|(rw [← e];exact qt8 (1) (2) om om om om)
   have HZ3:Hid (q*((1 / 2:Rat))=q'):=lh_ (HQ'.out)
   have su3:rz q'≤40:=by have e:=HZ3.out;first|omega|(rw [← e];have:=qk0 q ((1 / 2:Rat));omega)
   have lx4:=c1_ I
   refine kL fun K O=>?_
   have HG0:Hid (Gr vw2 vw2):=lh_ (Gr.refl _)
   refine xk1 fun T Y=>?_
   refine tk ?_
   refine qa0 rfl (by rfl) Tryz.call102 (by rfl) (fun w' hw=>(qy6 (1) (2) ((1 / 2:Rat)) _ HZ2.out om om om om).mono ?_)
   rintro e vv5 ⟨⟨rv3,rv4,rfl,bx5,bx6⟩,hg0⟩
   obtain ⟨ao3,nn3,cc3,rfl⟩:=Rn.sl bx5
   obtain ⟨ao4,nn4,cc4,rfl⟩:=Rn.sl bx6
   refine ⟨_,rfl,hg0,?_⟩
   replace hg0:=Gr.trans hw hg0;clear hw
   replace HG0:=lh_ (HG0.out.trans hg0)
   have HGS:=lh_ hg0;clear hg0
   clear HGS
   have RN5:=lh_ bx5;clear bx5
   have RN6:=lh_ bx6;clear bx6
   clear lx4;have lx4:=fun w' (h:Gr _ w')=>c1_ I w' (HG0.out.trans h)
   simp only [Act.put,lA,lB,lC]
   refine qa0 rfl (by rfl) Tryz.call132 (by rfl) (fun w' hw=>(qo2 q ((1 / 2:Rat)) q' _ _ _ _ _ HZ3.out om om (I.out.r 2 rfl (HG0.out.trans hw)) (I.out.r 3 rfl (HG0.out.trans hw)) (RN5.out.gr hw) (RN6.out.gr hw)).mono ?_)
   rintro e vv7 ⟨⟨rv5,rv6,rfl,bx7,bx8⟩,hg0⟩
   obtain ⟨ao5,nn5,cc5,rfl⟩:=Rn.sl bx7
   obtain ⟨ao6,nn6,cc6,rfl⟩:=Rn.sl bx8
   refine ⟨_,rfl,hg0,?_⟩
   replace hg0:=Gr.trans hw hg0;clear hw
   replace HG0:=lh_ (HG0.out.trans hg0)
   have HGS:=lh_ hg0;clear hg0
   replace RN5:=lh_ (RN5.out.gr HGS.out)
   replace RN6:=lh_ (RN6.out.gr HGS.out)
   clear HGS
   have RN7:=lh_ bx7;clear bx7
   have RN8:=lh_ bx8;clear bx8
   clear lx4;have lx4:=fun w' (h:Gr _ w')=>c1_ I w' (HG0.out.trans h)
   simp only [Act.put,lA,lB,lC]
   refine qa1 (Y.out _ _ ?_)
   intro G vw3 hg hf
   simp only [puts,Act.put,lA,lB,lC,lD,lE,↓reduceIte,Nat.reduceEqDiff]
   have J:=lh_ (((((I.out.gr (HG0.out.trans hg)).ar (RN5.out.gr hg)).ar (RN6.out.gr hg)).ar (RN7.out.gr hg)).ar (RN8.out.gr hg))
   simp only [zq1_,zq2_,zq3_,zq4_,lF,lG] at J
   clear Y T I hg hf HG0 RN5 RN6 RN7 RN8 lx4
   have lx4:=c1_ J;have fx4:=f1_ J
   have r0:=Gr.refl vw3
   go_wp2
   refine kO O ?_;clear O K
   clear r0 lx4 fx4
   refine fH (((J.out).put2 1 0 rfl).put 1 2 _ rfl) fun Wx5 I=>?_
   clear J
   have hwi:IntKind.i64.wrap ((i:Int)+1)=(i:Int)+1:=by rw [IntKind.wrap_i64];omega
   refine kL fun K O=>?_
   refine sq3_ fun T Y=>?_
   refine tk3_ ?_
   refine nlS Y I fun vw4 J=>?_
   clear Y T I
   go_wp2
   refine O.out _ _ ?_;clear O K
   try simp only [Exit.then,Exit.inBlock]
   have I:=lh_ (J.out);clear J
   clear hwi
   refine hj0_ _ _ ?_
   go_roundg kk
   case measure=>omega
   case rel=>exact ⟨i+1,q',_,_,rfl,by omega,lh_ (by rw [← HQ'.out,← HQ.out];exact qn8 i),lh_ (((((I.out).er 5).er 4).er 3).er 2)⟩
theorem xt0 (a:Rat) (n:Int) (va1 va2:Value) (w:World) (hn:n<0) (bx21:Rn w va1 a.num.natAbs) (bx22:Rn w va2 (a.den - 1)) :
  Calls Tryz.prog 96 #[(Value.agg #[.bool (decide (a.num<0)),va1,va2]),.int .i64 n] w fun e w'=>e=.returned ((.int .i64 1))∧Below w.heap.size w w':=by
 obtain ⟨ao_va1,n_va1,c_va1,rfl⟩:=Rn.sl bx21
 obtain ⟨ao_va2,n_va2,c_va2,rfl⟩:=Rn.sl bx22
 go_enter Tryz.func96,Tryz.ntmps96
 have I:=lh_ (hp0 w)
 replace I:=lh_ ((I.out.ar bx21).ar bx22)
 simp only [lF,lG] at I
 clear bx21 bx22
 refine kS fun K O=>?_
 refine wp_region_lit ?_
 go_wp2
 refine kF_ O ((I.out).aL (w.heap.size)) fun Wx0 J=>?_;clear O K
 clear I;have I:=J;clear J
 refine wp_seq ?_
 have hd1:n<0:=by first|exact ok|exact HA.out
 refine ks2_ fun K O T Y=>?_
 refine tk2_ ?_
 refine nlS Y I fun vw1 J=>?_
 clear Y T I
 go_wp2
 refine kO O ?_;clear O K
 have I:=J;clear J
 clear hd1
 refine wp_cond_true (by rfl) ?_
 refine kS fun K O=>?_
 refine wp_region_lit ?_
 go_wp2
 refine kF_ O (I.out) fun Wx2 J=>?_;clear O K
 clear I;have I:=J;clear J
 refine wp_ret ?_
 try simp only [Exit.then,Exit.inBlock]
 exact bodyPost_ret (v:=.int .i64 1) (by simp [results,Tryz.results96,go_sem]) rfl ⟨rfl,I.out.1⟩
theorem xa0 (a:Rat) (n:Int) (va1 va2:Value) (w:World) (hn:100<n) (bx21:Rn w va1 a.num.natAbs) (bx22:Rn w va2 (a.den - 1)) :
  Calls Tryz.prog 96 #[(Value.agg #[.bool (decide (a.num<0)),va1,va2]),.int .i64 n] w fun e w'=>e=.returned ((.int .i64 3))∧Below w.heap.size w w':=by
 obtain ⟨ao_va1,n_va1,c_va1,rfl⟩:=Rn.sl bx21
 obtain ⟨ao_va2,n_va2,c_va2,rfl⟩:=Rn.sl bx22
 go_enter Tryz.func96,Tryz.ntmps96
 have I:=lh_ (hp0 w)
 replace I:=lh_ ((I.out.ar bx21).ar bx22)
 simp only [lF,lG] at I
 clear bx21 bx22
 refine kS fun K O=>?_
 refine wp_region_lit ?_
 go_wp2
 refine kF_ O ((I.out).aL (w.heap.size)) fun Wx0 J=>?_;clear O K
 clear I;have I:=J;clear J
 refine wp_seq ?_
 have hd1:¬ (n<0):=by first|exact ok|exact HA.out
 refine ks2_ fun K O T Y=>?_
 refine tk2_ ?_
 refine nlS Y I fun vw1 J=>?_
 clear Y T I
 go_wp2
 refine kO O ?_;clear O K
 have I:=J;clear J
 clear hd1
 refine wp_cond_false (by rfl) ?_
 refine wp_skip ?_
 show Code.wp _ _ _ _ _
 refine wp_seq ?_
 have hd2:100<n:=by first|exact ok|exact HA.out
 refine ks2_ fun K O T Y=>?_
 refine tk2_ ?_
 refine nlS Y I fun vw2 J=>?_
 clear Y T I
 go_wp2
 refine kO O ?_;clear O K
 have I:=J;clear J
 clear hd2
 refine wp_cond_true (by rfl) ?_
 refine kS fun K O=>?_
 refine wp_region_lit ?_
 go_wp2
 refine kF_ O (I.out) fun Wx4 J=>?_;clear O K
 clear I;have I:=J;clear J
 refine wp_ret ?_
 try simp only [Exit.then,Exit.inBlock]
 exact bodyPost_ret (v:=.int .i64 3) (by simp [results,Tryz.results96,go_sem]) rfl ⟨rfl,I.out.1⟩
theorem qZ6 (a:Rat) (k:Nat) (va1 va2:Value) (w:World) (hk:k≤100) (HA:Hid (a<0)) (bx21:Rn w va1 a.num.natAbs) (bx22:Rn w va2 (a.den - 1)) :
  Calls Tryz.prog 96 #[(Value.agg #[.bool (decide (a.num<0)),va1,va2]),.int .i64 (((k:Nat):Int))] w fun e w'=>e=.returned ((.int .i64 1))∧Below w.heap.size w w':=by
 obtain ⟨ao_va1,n_va1,c_va1,rfl⟩:=Rn.sl bx21
 obtain ⟨ao_va2,n_va2,c_va2,rfl⟩:=Rn.sl bx22
 go_enter Tryz.func96,Tryz.ntmps96
 have I:=lh_ (hp0 w)
 replace I:=lh_ ((I.out.ar bx21).ar bx22)
 simp only [lF,lG] at I
 clear bx21 bx22
 refine kS fun K O=>?_
 refine wp_region_lit ?_
 go_wp2
 refine kF_ O ((I.out).aL (w.heap.size)) fun Wx0 J=>?_;clear O K
 clear I;have I:=J;clear J
 refine wp_seq ?_
 have hd1:¬ ((((k:Nat):Int))<0):=by first|exact ok|exact HA.out
 have hd2:¬ (k<0):=by have e:=hd1;omega
 refine ks2_ fun K O T Y=>?_
 refine tk2_ ?_
 refine nlS Y I fun vw1 J=>?_
 clear Y T I
 go_wp2
 refine kO O ?_;clear O K
 have I:=J;clear J
 clear hd1 hd2
 refine wp_cond_false (by rfl) ?_
 refine wp_skip ?_
 show Code.wp _ _ _ _ _
 refine wp_seq ?_
 have hd3:¬ (100<(((k:Nat):Int))):=by first|exact ok|exact HA.out
 refine ks2_ fun K O T Y=>?_
 refine tk2_ ?_
 refine nlS Y I fun vw2 J=>?_
 clear Y T I
 go_wp2
 refine kO O ?_;clear O K
 have I:=J;clear J
 clear hd3
 refine wp_cond_false (by rfl) ?_
 refine wp_skip ?_
 show Code.wp _ _ _ _ _
 refine wp_seq ?_
 have lx23:=c2_ I
 refine ks3_ fun K O T Y=>?_
 refine tk ?_
 refine ck Tryz.call81 (fun w' hw=>ql_ a (-1) _ _ _ (by have e9:(a)<(0:Rat):=(by first|exact ok|exact HA.out);exact qf5 e9) (I.out.r 0 rfl hw) (I.out.r 1 rfl hw)) ?_
 refine tk ?_
 refine nlS Y I fun vw3 J=>?_
 clear Y T I lx23
 go_wp2
 refine kF_ O ((((J.out).er 2).er 1).er 0) fun Wx5 I=>?_;clear O K
 clear J
 refine wp_cond_true (by rfl) ?_
 refine kS fun K O=>?_
 refine wp_region_lit ?_
 go_wp2
 refine kF_ O (I.out) fun Wx6 J=>?_;clear O K
 clear I;have I:=J;clear J
 refine wp_ret ?_
 try simp only [Exit.then,Exit.inBlock]
 exact bodyPost_ret (v:=.int .i64 1) (by simp [results,Tryz.results96,go_sem]) rfl ⟨rfl,I.out.1⟩
theorem qV1 (a:Rat) (k:Nat) (s:Int) (va1 va2:Value) (w:World) (hk:k≤100) (HS:Hid (sgQ a=s)) (hs0:¬ s<0) (bx21:Rn w va1 a.num.natAbs) (bx22:Rn w va2 (a.den - 1)) :
  Calls Tryz.prog 96 #[(Value.agg #[.bool (decide (a.num<0)),va1,va2]),.int .i64 (((k:Nat):Int))] w fun e w'=>e=.returned ((.int .i64 0))∧Below w.heap.size w w':=by
 obtain ⟨ao_va1,n_va1,c_va1,rfl⟩:=Rn.sl bx21
 obtain ⟨ao_va2,n_va2,c_va2,rfl⟩:=Rn.sl bx22
 go_enter Tryz.func96,Tryz.ntmps96
 have I:=lh_ (hp0 w)
 replace I:=lh_ ((I.out.ar bx21).ar bx22)
 simp only [lF,lG] at I
 clear bx21 bx22
 refine kS fun K O=>?_
 refine wp_region_lit ?_
 go_wp2
 refine kF_ O ((I.out).aL (w.heap.size)) fun Wx0 J=>?_;clear O K
 clear I;have I:=J;clear J
 refine wp_seq ?_
 have hd1:¬ ((((k:Nat):Int))<0):=by first|exact ok|exact HA.out
 have hd2:¬ (k<0):=by have e:=hd1;omega
 refine ks2_ fun K O T Y=>?_
 refine tk2_ ?_
 refine nlS Y I fun vw1 J=>?_
 clear Y T I
 go_wp2
 refine kO O ?_;clear O K
 have I:=J;clear J
 clear hd1 hd2
 refine wp_cond_false (by rfl) ?_
 refine wp_skip ?_
 show Code.wp _ _ _ _ _
 refine wp_seq ?_
 have hd3:¬ (100<(((k:Nat):Int))):=by first|exact ok|exact HA.out
 refine ks2_ fun K O T Y=>?_
 refine tk2_ ?_
 refine nlS Y I fun vw2 J=>?_
 clear Y T I
 go_wp2
 refine kO O ?_;clear O K
 have I:=J;clear J
 clear hd3
 refine wp_cond_false (by rfl) ?_
 refine wp_skip ?_
 show Code.wp _ _ _ _ _
 refine wp_seq ?_
 have hd4:¬ (s<0):=by first|exact ok|exact HA.out
 have lx23:=c2_ I
 refine ks3_ fun K O T Y=>?_
 refine tk ?_
 refine ck Tryz.call81 (fun w' hw=>ql_ a s _ _ _ (HS.out) (I.out.r 0 rfl hw) (I.out.r 1 rfl hw)) ?_
 refine tk ?_
 refine nlS Y I fun vw3 J=>?_
 clear Y T I lx23
 go_wp2
 refine kF_ O ((((J.out).er 2).er 1).er 0) fun Wx5 I=>?_;clear O K
 clear J
 clear hd4
 refine wp_cond_false (by rfl) ?_
 refine wp_skip ?_
 show Code.wp _ _ _ _ _
 refine kS fun K O=>?_
 refine wp_region_lit ?_
 go_wp2
 refine kF_ O (I.out) fun Wx7 J=>?_;clear O K
 clear I;have I:=J;clear J
 refine wp_ret ?_
 try simp only [Exit.then,Exit.inBlock]
 exact bodyPost_ret (v:=.int .i64 0) (by simp [results,Tryz.results96,go_sem]) rfl ⟨rfl,I.out.1⟩
end Go.Proofs.YtaflakcemiilaaaGreatDoor
