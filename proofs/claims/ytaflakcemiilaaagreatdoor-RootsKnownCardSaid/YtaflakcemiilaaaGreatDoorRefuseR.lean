
/- RootsRefused: the law's walk. -/
import Derived.Test.YtaflakcemiilaaaGreatDoorRRot1
import Derived.Test.YtaflakcemiilaaaGreatDoorPL
import Derived.Test.YtaflakcemiilaaaGreatDoorEarly
set_option maxRecDepth 100000
set_option maxHeartbeats 16000000
set_option linter.unusedVariables false
set_option linter.unusedSimpArgs false
namespace Go.Proofs.YtaflakcemiilaaaGreatDoor
open Go.RowKit
attribute [local go_sem ↓] Go.wp_at_zero Go.wp_at_succ
attribute [local go_sem ↓] qd6 qa7 qf4 qk3 qe7
attribute [local go_sem] Instr.field asAgg
theorem qa_:(0:Rat)≤(1:Rat):=by decide +kernel
theorem qU3 (a:Rat):-(qabs a+(1:Rat))<0:=by have:=qj2 a;grind
theorem xk3 {m:Rat} (h:m<0):¬ exq m*exq m=m:=fun e=>by have:=qb7 (exq m);rw [e] at this;grind
theorem xd8 {a:Rat} {M:Nat} (h:sz a≤M):sz (-(qabs a+(1:Rat)))≤M+2:=by
 rw [qs0]
 have e1:=qe0 (qabs a) 1
 rw [qc8] at e1
 have e2:sz (1:Rat)≤1:=qd5 (qa4.2 (by decide +kernel)) (qa4.2 (by decide +kernel))
 omega
theorem qR8 (n d:Int) (a ab mn:Rat) (p:Int) (w:World) (HA0:Hid (qv n d=a)) (HAB:Hid (qabs a=ab)) (HAB0:Hid (0≤ab)) (hsab:sz ab≤10) (HMN:Hid (-(ab+(1:Rat))=mn)) (HMN0:Hid (mn<0)) (HXN:Hid (¬ exq mn*exq mn=mn)) (hsm:sz mn≤20) (h1:-9223372036854775808≤n) (h2:n≤9223372036854775807) (h3:0≤d) (h4:d≤4294967295) (hp:p<0) (HT:Hid (Tab w)) :
  Calls Tryz.prog 5 #[(Value.agg #[.int .i64 n,.int .u32 d]),.int .i64 p] w fun e w'=>e=.returned (.bool true)∧Below w.heap.size w w':=by
 go_enter Tryz.func5,Tryz.ntmps5
 have I:=lh_ (hp0 w)
 refine kS fun K O=>?_
 refine wp_region_lit ?_
 go_wp2
 refine kF_ O ((I.out).aL (w.heap.size)) fun Wx0 J=>?_;clear O K
 clear I;have I:=J;clear J
 have HZ1:Hid (qv n d=a):=lh_ (HA0.out)
 have su1:sz a≤4:=by have e:=HZ1.out;first|omega|(rw [← e];exact qh0 n d om om om om)
 have lx0:=c0_ I
 refine ks2_ fun K O T Y=>?_
 refine tk ?_
 refine ck Tryz.call24 (fun w' hw=>qf9 n d a _ HZ1.out om om om om) ?_
 refine nlS Y I fun vw1 J=>?_
 clear Y T I lx0
 go_wp2
 refine kF_ O (((J.out).aL (vw1.heap.size)).er 0) fun Wx1 I=>?_;clear O K
 clear J
 generalize vw1.heap.size=gx2 at *
 have HZ2:Hid (qabs a=ab):=lh_ (HAB.out)
 have su2:sz ab≤4:=by have e:=HZ2.out;first|omega|(rw [← e];rw [qc8];omega)
 have HZ3:Hid (((1:Int):Rat)=(1:Rat)):=lh_ (by decide +kernel)
 have su3:sz ((1:Rat))≤2:=qd5 (qa4.2 (by decide +kernel)) (qa4.2 (by decide +kernel))
 obtain ⟨u4,HZ4⟩:∃ z,Hid (ab+(1:Rat)=z):=⟨_,lh_ rfl⟩
 have su4:sz u4≤7:=by rw [← HZ4.out];have:=qe0 ab (1:Rat);omega
 have HZ5:Hid (-(u4)=mn):=lh_ (by rw [← HMN.out];simp only [← HZ4.out])
 have su5:sz mn≤20:=by have e:=HZ5.out;first|omega|(rw [← e];rw [qs0];omega)
 have lx2:=c0_ I
 refine ks5_ fun K O T Y=>?_
 refine tk ?_
 refine ck Tryz.call31 (fun w' hw=>qd0 a ab _ HZ2.out) ?_
 refine ck Tryz.call32 (fun w' hw=>qb5 (1) (1:Rat) _ HZ3.out om om) ?_
 refine ck Tryz.call30 (fun w' hw=>qc5 ab (1:Rat) u4 _ HZ4.out om om) ?_
 refine ck Tryz.call29 (fun w' hw=>qq2 u4 mn _ HZ5.out) ?_
 refine nlS Y I fun vw2 J=>?_
 clear Y T I lx2
 go_wp2
 refine kF_ O ((J.out).aL (vw2.heap.size)) fun Wx2 I=>?_;clear O K
 clear J
 generalize vw2.heap.size=gx3 at *
 have lx3:=c1_ I
 refine ks6_ fun K O T Y=>?_
 refine tk2_ ?_
 refine ck Tryz.call23 (fun w' hw=>qB6 mn p _ om) ?_
 refine tk3_ ?_
 refine nlS Y I fun vw3 J=>?_
 clear Y T I lx3
 go_wp2
 refine kF_ O ((J.out).aL (vw3.heap.size)) fun Wx3 I=>?_;clear O K
 clear J
 generalize vw3.heap.size=gx4 at *
 have lx2:=c0_ I
 refine ks6_ fun K O T Y=>?_
 refine tk2_ ?_
 refine ck Tryz.call25 (fun w' hw=>qB_ a p _ om) ?_
 refine tk3_ ?_
 refine nlS Y I fun vw4 J=>?_
 clear Y T I lx2
 go_wp2
 refine kF_ O ((J.out).aL (vw4.heap.size)) fun Wx4 I=>?_;clear O K
 clear J
 generalize vw4.heap.size=gx5 at *
 refine kS fun K O=>?_
 refine wp_region_lit ?_
 go_wp2
 refine kF_ O (I.out) fun Wx5 J=>?_;clear O K
 clear I;have I:=J;clear J
 refine wp_seq ?_
 have hd1:¬ (100<p):=by first|exact ok|exact HMN0.out|exact HXN.out|exact HAN.out|exact HAB.out|exact HAB0.out|exact qa_|(simp only [← HZ4.out] <;> first|exact ok|exact HMN0.out|exact HXN.out|exact HAN.out|exact HAB.out|exact HAB0.out|exact qa_)
 refine ks2_ fun K O T Y=>?_
 refine tk2_ ?_
 refine nlS Y I fun vw5 J=>?_
 clear Y T I
 go_wp2
 refine kO O ?_;clear O K
 have I:=J;clear J
 clear hd1
 refine wp_cond_false (by rfl) ?_
 refine wp_skip ?_
 show Code.wp _ _ _ _ _
 have lx3:=c1_ I
 refine ks5_ fun K O T Y=>?_
 refine tk ?_
 refine ck Tryz.call33 (fun w' hw=>qi_ mn _ _ rfl (by first|exact ok|exact HMN0.out|exact HXN.out|exact HAN.out|exact HAB.out|exact HAB0.out|exact qa_|(simp only [← HZ4.out] <;> first|exact ok|exact HMN0.out|exact HXN.out|exact HAN.out|exact HAB.out|exact HAB0.out|exact qa_)) om) ?_
 refine tk3_ ?_
 refine nlS Y I fun vw6 J=>?_
 clear Y T I lx3
 go_wp2
 refine kF_ O ((J.out).aL (vw6.heap.size)) fun Wx8 I=>?_;clear O K
 clear J
 generalize vw6.heap.size=gx6 at *
 have lx2:=c0_ I
 have lx3:=c1_ I
 refine qj6 fun K O T Y=>?_
 refine tk2_ ?_
 refine ck Tryz.call34 (fun w' hw=>qt1 mn a (0:Rat) _ 0 (fun _=>0) _ (lh_ (fs0 _ _)) om (lh_ (fsz0 _)) (lh_ rfl) (by first|omega|exact qd5 (qa4.2 (by decide +kernel)) (qa4.2 (by decide +kernel))) om om (lh_ (by first|exact ok|exact HMN0.out|exact HXN.out|exact HAN.out|exact HAB.out|exact HAB0.out|exact qa_|(simp only [← HZ4.out] <;> first|exact ok|exact HMN0.out|exact HXN.out|exact HAN.out|exact HAB.out|exact HAB0.out|exact qa_)))) ?_
 iterate 5 refine tk ?_
 refine nlS Y I fun vw7 J=>?_
 clear Y T I lx2 lx3
 go_wp2
 refine kO O ?_;clear O K
 have I:=J;clear J
 have HZ6:Hid (qabs a=ab):=lh_ (by first|exact ok|exact HMN0.out|exact HXN.out|exact HAN.out|exact HAB.out|exact HAB0.out|exact qa_|(simp only [← HZ4.out] <;> first|exact ok|exact HMN0.out|exact HXN.out|exact HAN.out|exact HAB.out|exact HAB0.out|exact qa_))
 have su6:sz ab≤4:=by have e:=HZ6.out;first|omega|(rw [← e];rw [qc8];omega)
 have HZ7:Hid (((1:Int):Rat)=(1:Rat)):=lh_ (by decide +kernel)
 have su7:sz ((1:Rat))≤2:=qd5 (qa4.2 (by decide +kernel)) (qa4.2 (by decide +kernel))
 have lx2:=c0_ I
 have lx3:=c1_ I
 refine kS fun K O=>?_
 have HG0:Hid (Gr vw7 vw7):=lh_ (Gr.refl _)
 refine qe4 10 [] [] (fun _=>0) (fun _=>.cells #[] 0) (fun i=>(1,#[.int .u64 (lo mn.num.natAbs),.string (bg mn.num.natAbs),.bool (mn.num<0),.int .u64 (lo (mn.den - 1)),.string (bg (mn.den - 1))],36)) [(0,0),(0,3),(1,4),(0,1),(0,2),(2,4),(0,5),(0,6),(0,7),(0,8),(0,9)] (by kernel_rfl) (by kernel_rfl) (fun i hi=>by cases hi) (fun i hi=>by cases hi) (fun _ _ _ _ _ h=>h) (fun T Y=>?_)
 iterate 2 (refine qc3 (v:=?_) rfl (by rfl) (fun w' hw=>?_) ?_;rotate_left;go_simp;with_reducible rfl;simp only [Act.put,lA,lB,lC])
 refine qh8 rfl (by rfl) (fun w'=>?_) ?_
 ·go_simp
 refine qa9 rfl (by rfl) Tryz.call31 (fun w' hw=>qd0 a ab _ HZ6.out) (by rfl) ?_
 simp only [Act.put,lA,lB,lC]
 refine qa9 rfl (by rfl) Tryz.call32 (fun w' hw=>qb5 (1) (1:Rat) _ HZ7.out om om) (by rfl) ?_
 simp only [Act.put,lA,lB,lC]
 refine qg4 rfl (by rfl) (fun gx7 vv7 hg0 yx7 bx7=>?_)
 clear yx7
 replace HG0:=lh_ (HG0.out.trans hg0)
 have HGS:=lh_ hg0;clear hg0
 clear HGS
 have BX7:=lh_ bx7;clear bx7
 clear lx2;have lx2:=fun w' (h:Gr _ w')=>c0_ I w' (HG0.out.trans h)
 clear lx3;have lx3:=fun w' (h:Gr _ w')=>c1_ I w' (HG0.out.trans h)
 simp only [Act.put,lA,lB,lC]
 refine qa9 rfl (by rfl) Tryz.call34 (fun w' hw=>qo9 ab (1:Rat) mn _ 1 (rf1_ mn) _ (lh_ (fs1 BX7.out hw)) om (lh_ (fsz1 om)) (lh_ (qB2 _)) (by first|omega|exact qd5 (qa4.2 (by decide +kernel)) (qa4.2 (by decide +kernel))) om om (lh_ (by first|exact ok|exact HMN0.out|exact HXN.out|exact HAN.out|exact HAB.out|exact HAB0.out|exact qa_|(simp only [← HZ4.out] <;> first|exact ok|exact HMN0.out|exact HXN.out|exact HAN.out|exact HAB.out|exact HAB0.out|exact qa_))) (lh_ (by first|exact ok|exact HMN0.out|exact HXN.out|exact HAN.out|exact HAB.out|exact HAB0.out|exact qa_|(simp only [← HZ4.out] <;> first|exact ok|exact HMN0.out|exact HXN.out|exact HAN.out|exact HAB.out|exact HAB0.out|exact qa_))) (lh_ (by first|exact ok|exact HMN0.out|exact HXN.out|exact HAN.out|exact HAB.out|exact HAB0.out|exact qa_|(simp only [← HZ4.out] <;> first|exact ok|exact HMN0.out|exact HXN.out|exact HAN.out|exact HAB.out|exact HAB0.out|exact qa_)))) (by rfl) ?_
 simp only [Act.put,lA,lB,lC]
 iterate 4 (refine qc3 (v:=?_) rfl (by rfl) (fun w' hw=>?_) ?_;rotate_left;go_simp;with_reducible rfl;simp only [Act.put,lA,lB,lC])
 refine qg7 (Y.out _ _ ?_)
 intro G vw8 hg hf
 simp only [puts,Act.put,lA,lB,lC,lD,lE,↓reduceIte,Nat.reduceEqDiff]
 have J:=lh_ (I.out.gr (HG0.out.trans hg))
 clear Y T I hg hf HG0 BX7 lx2 lx3
 go_wp2
 refine kF_ O ((J.out).er 1) fun Wx10 I=>?_;clear O K
 clear J
 refine wp_seq ?_
 have lx4:=c1_ I
 have lx6:=c3_ I
 refine qs3 fun K O T Y=>?_
 iterate 24 refine tk ?_
 refine nlS Y I fun vw9 J=>?_
 clear Y T I lx4 lx6
 go_wp2
 refine kF_ O ((J.out).er 3) fun Wx11 I=>?_;clear O K
 clear J
 refine wp_cond_false (by rfl) ?_
 refine wp_skip ?_
 show Code.wp _ _ _ _ _
 refine wp_seq ?_
 have hd2:p<0:=by first|exact ok|exact HMN0.out|exact HXN.out|exact HAN.out|exact HAB.out|exact HAB0.out|exact qa_|(simp only [← HZ4.out] <;> first|exact ok|exact HMN0.out|exact HXN.out|exact HAN.out|exact HAB.out|exact HAB0.out|exact qa_)
 have lx2:=c0_ I
 refine ql9 fun K O T Y=>?_
 refine tk3_ ?_
 iterate 2 refine sk ?_
 refine tk2_ ?_
 iterate 3 refine sk ?_
 refine tk ?_
 refine nlS Y I fun vw10 J=>?_
 clear Y T I lx2
 go_wp2
 refine kF_ O ((J.out).er 0) fun Wx13 I=>?_;clear O K
 clear J
 clear hd2
 refine wp_cond_true (by rfl) ?_
 have HB:=HPb I
 have lx4:=c0_ I
 have lx5:=c1_ I
 refine xo_ fun K O T Y=>?_
 iterate 9 refine tk ?_
 refine ck Tryz.call22 (fun w' hw=>qa6 _ (lh_ (HT.out.gr (Gr.trans HB.out hw)))) ?_
 refine tk2_ ?_
 refine nlS Y I fun vw11 J=>?_
 clear Y T I lx4 lx5 HB
 go_wp2
 refine kF_ O (((J.out).er 1).er 0) fun Wx14 I=>?_;clear O K
 clear J
 refine wp_ret ?_
 try simp only [Exit.then,Exit.inBlock]
 exact bodyPost_ret (v:=.bool true) (by simp [results,Tryz.results5,go_sem]) rfl ⟨rfl,I.out.1⟩
theorem qO3 (n d:Int) (a ab mn:Rat) (p:Int) (w:World) (HA0:Hid (qv n d=a)) (HAB:Hid (qabs a=ab)) (HAB0:Hid (0≤ab)) (hsab:sz ab≤10) (HMN:Hid (-(ab+(1:Rat))=mn)) (HMN0:Hid (mn<0)) (HXN:Hid (¬ exq mn*exq mn=mn)) (hsm:sz mn≤20) (h1:-9223372036854775808≤n) (h2:n≤9223372036854775807) (h3:0≤d) (h4:d≤4294967295) (hp:100<p) (HT:Hid (Tab w)) :
  Calls Tryz.prog 5 #[(Value.agg #[.int .i64 n,.int .u32 d]),.int .i64 p] w fun e w'=>e=.returned (.bool true)∧Below w.heap.size w w':=by
 go_enter Tryz.func5,Tryz.ntmps5
 have I:=lh_ (hp0 w)
 refine kS fun K O=>?_
 refine wp_region_lit ?_
 go_wp2
 refine kF_ O ((I.out).aL (w.heap.size)) fun Wx0 J=>?_;clear O K
 clear I;have I:=J;clear J
 have HZ1:Hid (qv n d=a):=lh_ (HA0.out)
 have su1:sz a≤4:=by have e:=HZ1.out;first|omega|(rw [← e];exact qh0 n d om om om om)
 have lx0:=c0_ I
 refine ks2_ fun K O T Y=>?_
 refine tk ?_
 refine ck Tryz.call24 (fun w' hw=>qf9 n d a _ HZ1.out om om om om) ?_
 refine nlS Y I fun vw1 J=>?_
 clear Y T I lx0
 go_wp2
 refine kF_ O (((J.out).aL (vw1.heap.size)).er 0) fun Wx1 I=>?_;clear O K
 clear J
 generalize vw1.heap.size=gx2 at *
 have HZ2:Hid (qabs a=ab):=lh_ (HAB.out)
 have su2:sz ab≤4:=by have e:=HZ2.out;first|omega|(rw [← e];rw [qc8];omega)
 have HZ3:Hid (((1:Int):Rat)=(1:Rat)):=lh_ (by decide +kernel)
 have su3:sz ((1:Rat))≤2:=qd5 (qa4.2 (by decide +kernel)) (qa4.2 (by decide +kernel))
 obtain ⟨u4,HZ4⟩:∃ z,Hid (ab+(1:Rat)=z):=⟨_,lh_ rfl⟩
 have su4:sz u4≤7:=by rw [← HZ4.out];have:=qe0 ab (1:Rat);omega
 have HZ5:Hid (-(u4)=mn):=lh_ (by rw [← HMN.out];simp only [← HZ4.out])
 have su5:sz mn≤20:=by have e:=HZ5.out;first|omega|(rw [← e];rw [qs0];omega)
 have lx2:=c0_ I
 refine ks5_ fun K O T Y=>?_
 refine tk ?_
 refine ck Tryz.call31 (fun w' hw=>qd0 a ab _ HZ2.out) ?_
 refine ck Tryz.call32 (fun w' hw=>qb5 (1) (1:Rat) _ HZ3.out om om) ?_
 refine ck Tryz.call30 (fun w' hw=>qc5 ab (1:Rat) u4 _ HZ4.out om om) ?_
 refine ck Tryz.call29 (fun w' hw=>qq2 u4 mn _ HZ5.out) ?_
 refine nlS Y I fun vw2 J=>?_
 clear Y T I lx2
 go_wp2
 refine kF_ O ((J.out).aL (vw2.heap.size)) fun Wx2 I=>?_;clear O K
 clear J
 generalize vw2.heap.size=gx3 at *
 have lx3:=c1_ I
 refine ks6_ fun K O T Y=>?_
 refine tk2_ ?_
 refine ck Tryz.call23 (fun w' hw=>qw_ mn p _ om) ?_
 refine tk3_ ?_
 refine nlS Y I fun vw3 J=>?_
 clear Y T I lx3
 go_wp2
 refine kF_ O ((J.out).aL (vw3.heap.size)) fun Wx3 I=>?_;clear O K
 clear J
 generalize vw3.heap.size=gx4 at *
 have lx2:=c0_ I
 refine ks6_ fun K O T Y=>?_
 refine tk2_ ?_
 refine ck Tryz.call25 (fun w' hw=>qx_ a p _ om) ?_
 refine tk3_ ?_
 refine nlS Y I fun vw4 J=>?_
 clear Y T I lx2
 go_wp2
 refine kF_ O ((J.out).aL (vw4.heap.size)) fun Wx4 I=>?_;clear O K
 clear J
 generalize vw4.heap.size=gx5 at *
 refine kS fun K O=>?_
 refine wp_region_lit ?_
 go_wp2
 refine kF_ O (I.out) fun Wx5 J=>?_;clear O K
 clear I;have I:=J;clear J
 refine wp_seq ?_
 have hd1:100<p:=by first|exact ok|exact HMN0.out|exact HXN.out|exact HAN.out|exact HAB.out|exact HAB0.out|exact qa_|(simp only [← HZ4.out] <;> first|exact ok|exact HMN0.out|exact HXN.out|exact HAN.out|exact HAB.out|exact HAB0.out|exact qa_)
 refine ks2_ fun K O T Y=>?_
 refine tk2_ ?_
 refine nlS Y I fun vw5 J=>?_
 clear Y T I
 go_wp2
 refine kO O ?_;clear O K
 have I:=J;clear J
 clear hd1
 refine wp_cond_true (by rfl) ?_
 refine kL fun K O=>?_
 refine wp_region_lit ?_
 go_wp2
 refine kF_ O (I.out) fun Wx7 J=>?_;clear O K
 clear I;have I:=J;clear J
 have lx3:=c1_ I
 refine ks5_ fun K O T Y=>?_
 refine tk ?_
 refine ck Tryz.call33 (fun w' hw=>qi_ mn _ _ rfl (by first|exact ok|exact HMN0.out|exact HXN.out|exact HAN.out|exact HAB.out|exact HAB0.out|exact qa_|(simp only [← HZ4.out] <;> first|exact ok|exact HMN0.out|exact HXN.out|exact HAN.out|exact HAB.out|exact HAB0.out|exact qa_)) om) ?_
 refine tk3_ ?_
 refine nlS Y I fun vw6 J=>?_
 clear Y T I lx3
 go_wp2
 refine kF_ O ((J.out).aL (vw6.heap.size)) fun Wx8 I=>?_;clear O K
 clear J
 generalize vw6.heap.size=gx6 at *
 have lx2:=c0_ I
 have lx3:=c1_ I
 refine qj6 fun K O T Y=>?_
 refine tk2_ ?_
 refine ck Tryz.call34 (fun w' hw=>qt1 mn a (0:Rat) _ 0 (fun _=>0) _ (lh_ (fs0 _ _)) om (lh_ (fsz0 _)) (lh_ rfl) (by first|omega|exact qd5 (qa4.2 (by decide +kernel)) (qa4.2 (by decide +kernel))) om om (lh_ (by first|exact ok|exact HMN0.out|exact HXN.out|exact HAN.out|exact HAB.out|exact HAB0.out|exact qa_|(simp only [← HZ4.out] <;> first|exact ok|exact HMN0.out|exact HXN.out|exact HAN.out|exact HAB.out|exact HAB0.out|exact qa_)))) ?_
 iterate 5 refine tk ?_
 refine nlS Y I fun vw7 J=>?_
 clear Y T I lx2 lx3
 go_wp2
 refine kO O ?_;clear O K
 have I:=J;clear J
 have HZ6:Hid (qabs a=ab):=lh_ (by first|exact ok|exact HMN0.out|exact HXN.out|exact HAN.out|exact HAB.out|exact HAB0.out|exact qa_|(simp only [← HZ4.out] <;> first|exact ok|exact HMN0.out|exact HXN.out|exact HAN.out|exact HAB.out|exact HAB0.out|exact qa_))
 have su6:sz ab≤4:=by have e:=HZ6.out;first|omega|(rw [← e];rw [qc8];omega)
 have HZ7:Hid (((1:Int):Rat)=(1:Rat)):=lh_ (by decide +kernel)
 have su7:sz ((1:Rat))≤2:=qd5 (qa4.2 (by decide +kernel)) (qa4.2 (by decide +kernel))
 have lx2:=c0_ I
 have lx3:=c1_ I
 refine kS fun K O=>?_
 have HG0:Hid (Gr vw7 vw7):=lh_ (Gr.refl _)
 refine qe4 10 [] [] (fun _=>0) (fun _=>.cells #[] 0) (fun i=>(1,#[.int .u64 (lo mn.num.natAbs),.string (bg mn.num.natAbs),.bool (mn.num<0),.int .u64 (lo (mn.den - 1)),.string (bg (mn.den - 1))],36)) [(0,0),(0,3),(1,4),(0,1),(0,2),(2,4),(0,5),(0,6),(0,7),(0,8),(0,9)] (by kernel_rfl) (by kernel_rfl) (fun i hi=>by cases hi) (fun i hi=>by cases hi) (fun _ _ _ _ _ h=>h) (fun T Y=>?_)
 iterate 2 (refine qc3 (v:=?_) rfl (by rfl) (fun w' hw=>?_) ?_;rotate_left;go_simp;with_reducible rfl;simp only [Act.put,lA,lB,lC])
 refine qh8 rfl (by rfl) (fun w'=>?_) ?_
 ·go_simp
 refine qa9 rfl (by rfl) Tryz.call31 (fun w' hw=>qd0 a ab _ HZ6.out) (by rfl) ?_
 simp only [Act.put,lA,lB,lC]
 refine qa9 rfl (by rfl) Tryz.call32 (fun w' hw=>qb5 (1) (1:Rat) _ HZ7.out om om) (by rfl) ?_
 simp only [Act.put,lA,lB,lC]
 refine qg4 rfl (by rfl) (fun gx7 vv7 hg0 yx7 bx7=>?_)
 clear yx7
 replace HG0:=lh_ (HG0.out.trans hg0)
 have HGS:=lh_ hg0;clear hg0
 clear HGS
 have BX7:=lh_ bx7;clear bx7
 clear lx2;have lx2:=fun w' (h:Gr _ w')=>c0_ I w' (HG0.out.trans h)
 clear lx3;have lx3:=fun w' (h:Gr _ w')=>c1_ I w' (HG0.out.trans h)
 simp only [Act.put,lA,lB,lC]
 refine qa9 rfl (by rfl) Tryz.call34 (fun w' hw=>qo9 ab (1:Rat) mn _ 1 (rf1_ mn) _ (lh_ (fs1 BX7.out hw)) om (lh_ (fsz1 om)) (lh_ (qB2 _)) (by first|omega|exact qd5 (qa4.2 (by decide +kernel)) (qa4.2 (by decide +kernel))) om om (lh_ (by first|exact ok|exact HMN0.out|exact HXN.out|exact HAN.out|exact HAB.out|exact HAB0.out|exact qa_|(simp only [← HZ4.out] <;> first|exact ok|exact HMN0.out|exact HXN.out|exact HAN.out|exact HAB.out|exact HAB0.out|exact qa_))) (lh_ (by first|exact ok|exact HMN0.out|exact HXN.out|exact HAN.out|exact HAB.out|exact HAB0.out|exact qa_|(simp only [← HZ4.out] <;> first|exact ok|exact HMN0.out|exact HXN.out|exact HAN.out|exact HAB.out|exact HAB0.out|exact qa_))) (lh_ (by first|exact ok|exact HMN0.out|exact HXN.out|exact HAN.out|exact HAB.out|exact HAB0.out|exact qa_|(simp only [← HZ4.out] <;> first|exact ok|exact HMN0.out|exact HXN.out|exact HAN.out|exact HAB.out|exact HAB0.out|exact qa_)))) (by rfl) ?_
 simp only [Act.put,lA,lB,lC]
 iterate 4 (refine qc3 (v:=?_) rfl (by rfl) (fun w' hw=>?_) ?_;rotate_left;go_simp;with_reducible rfl;simp only [Act.put,lA,lB,lC])
 refine qg7 (Y.out _ _ ?_)
 intro G vw8 hg hf
 simp only [puts,Act.put,lA,lB,lC,lD,lE,↓reduceIte,Nat.reduceEqDiff]
 have J:=lh_ (I.out.gr (HG0.out.trans hg))
 clear Y T I hg hf HG0 BX7 lx2 lx3
 go_wp2
 refine kF_ O ((J.out).er 1) fun Wx10 I=>?_;clear O K
 clear J
 refine wp_seq ?_
 have lx4:=c1_ I
 have lx6:=c3_ I
 refine qs3 fun K O T Y=>?_
 iterate 24 refine tk ?_
 refine nlS Y I fun vw9 J=>?_
 clear Y T I lx4 lx6
 go_wp2
 refine kF_ O ((J.out).er 3) fun Wx11 I=>?_;clear O K
 clear J
 refine wp_cond_false (by rfl) ?_
 refine wp_skip ?_
 show Code.wp _ _ _ _ _
 refine wp_seq ?_
 have hd2:¬ (p<0):=by first|exact ok|exact HMN0.out|exact HXN.out|exact HAN.out|exact HAB.out|exact HAB0.out|exact qa_|(simp only [← HZ4.out] <;> first|exact ok|exact HMN0.out|exact HXN.out|exact HAN.out|exact HAB.out|exact HAB0.out|exact qa_)
 have hd3:100<p:=by first|exact ok|exact HMN0.out|exact HXN.out|exact HAN.out|exact HAB.out|exact HAB0.out|exact qa_|(simp only [← HZ4.out] <;> first|exact ok|exact HMN0.out|exact HXN.out|exact HAN.out|exact HAB.out|exact HAB0.out|exact qa_)
 have lx2:=c0_ I
 refine ql9 fun K O T Y=>?_
 iterate 7 refine tk ?_
 iterate 3 refine sk ?_
 refine tk ?_
 refine nlS Y I fun vw10 J=>?_
 clear Y T I lx2
 go_wp2
 refine kF_ O ((J.out).er 0) fun Wx13 I=>?_;clear O K
 clear J
 clear hd2 hd3
 refine wp_cond_true (by rfl) ?_
 have HB:=HPb I
 have lx4:=c0_ I
 have lx5:=c1_ I
 refine xo_ fun K O T Y=>?_
 iterate 9 refine tk ?_
 refine ck Tryz.call22 (fun w' hw=>qa6 _ (lh_ (HT.out.gr (Gr.trans HB.out hw)))) ?_
 refine tk2_ ?_
 refine nlS Y I fun vw11 J=>?_
 clear Y T I lx4 lx5 HB
 go_wp2
 refine kF_ O (((J.out).er 1).er 0) fun Wx14 I=>?_;clear O K
 clear J
 refine wp_ret ?_
 try simp only [Exit.then,Exit.inBlock]
 exact bodyPost_ret (v:=.bool true) (by simp [results,Tryz.results5,go_sem]) rfl ⟨rfl,I.out.1⟩
theorem qL3 (n d:Int) (a ab mn:Rat) (k:Nat) (w:World) (HA0:Hid (qv n d=a)) (HAB:Hid (qabs a=ab)) (HAB0:Hid (0≤ab)) (hsab:sz ab≤10) (HMN:Hid (-(ab+(1:Rat))=mn)) (HMN0:Hid (mn<0)) (HXN:Hid (¬ exq mn*exq mn=mn)) (hsm:sz mn≤20) (h1:-9223372036854775808≤n) (h2:n≤9223372036854775807) (h3:0≤d) (h4:d≤4294967295) (hk:k≤100) (HAN:Hid (a<0)) (HT:Hid (Tab w)) :
  Calls Tryz.prog 5 #[(Value.agg #[.int .i64 n,.int .u32 d]),.int .i64 (((k:Nat):Int))] w fun e w'=>e=.returned (.bool true)∧Below w.heap.size w w':=by
 go_enter Tryz.func5,Tryz.ntmps5
 have I:=lh_ (hp0 w)
 refine kS fun K O=>?_
 refine wp_region_lit ?_
 go_wp2
 refine kF_ O ((I.out).aL (w.heap.size)) fun Wx0 J=>?_;clear O K
 clear I;have I:=J;clear J
 have HZ1:Hid (qv n d=a):=lh_ (HA0.out)
 have su1:sz a≤4:=by have e:=HZ1.out;first|omega|(rw [← e];exact qh0 n d om om om om)
 have lx0:=c0_ I
 refine ks2_ fun K O T Y=>?_
 refine tk ?_
 refine ck Tryz.call24 (fun w' hw=>qf9 n d a _ HZ1.out om om om om) ?_
 refine nlS Y I fun vw1 J=>?_
 clear Y T I lx0
 go_wp2
 refine kF_ O (((J.out).aL (vw1.heap.size)).er 0) fun Wx1 I=>?_;clear O K
 clear J
 generalize vw1.heap.size=gx2 at *
 have HZ2:Hid (qabs a=ab):=lh_ (HAB.out)
 have su2:sz ab≤4:=by have e:=HZ2.out;first|omega|(rw [← e];rw [qc8];omega)
 have HZ3:Hid (((1:Int):Rat)=(1:Rat)):=lh_ (by decide +kernel)
 have su3:sz ((1:Rat))≤2:=qd5 (qa4.2 (by decide +kernel)) (qa4.2 (by decide +kernel))
 obtain ⟨u4,HZ4⟩:∃ z,Hid (ab+(1:Rat)=z):=⟨_,lh_ rfl⟩
 have su4:sz u4≤7:=by rw [← HZ4.out];have:=qe0 ab (1:Rat);omega
 have HZ5:Hid (-(u4)=mn):=lh_ (by rw [← HMN.out];simp only [← HZ4.out])
 have su5:sz mn≤20:=by have e:=HZ5.out;first|omega|(rw [← e];rw [qs0];omega)
 have lx2:=c0_ I
 refine ks5_ fun K O T Y=>?_
 refine tk ?_
 refine ck Tryz.call31 (fun w' hw=>qd0 a ab _ HZ2.out) ?_
 refine ck Tryz.call32 (fun w' hw=>qb5 (1) (1:Rat) _ HZ3.out om om) ?_
 refine ck Tryz.call30 (fun w' hw=>qc5 ab (1:Rat) u4 _ HZ4.out om om) ?_
 refine ck Tryz.call29 (fun w' hw=>qq2 u4 mn _ HZ5.out) ?_
 refine nlS Y I fun vw2 J=>?_
 clear Y T I lx2
 go_wp2
 refine kF_ O ((J.out).aL (vw2.heap.size)) fun Wx2 I=>?_;clear O K
 clear J
 generalize vw2.heap.size=gx3 at *
 have lx3:=c1_ I
 refine ks6_ fun K O T Y=>?_
 refine tk2_ ?_
 refine ck Tryz.call23 (fun w' hw=>qq5 mn k _ (by first|exact ok|exact HMN0.out|exact HXN.out|exact HAN.out|exact HAB.out|exact HAB0.out|exact qa_|(simp only [← HZ4.out] <;> first|exact ok|exact HMN0.out|exact HXN.out|exact HAN.out|exact HAB.out|exact HAB0.out|exact qa_)) om) ?_
 refine tk3_ ?_
 refine nlS Y I fun vw3 J=>?_
 clear Y T I lx3
 go_wp2
 refine kF_ O ((J.out).aL (vw3.heap.size)) fun Wx3 I=>?_;clear O K
 clear J
 generalize vw3.heap.size=gx4 at *
 have lx2:=c0_ I
 refine ks6_ fun K O T Y=>?_
 refine tk2_ ?_
 refine ck Tryz.call25 (fun w' hw=>qy0 a k _ (by first|exact ok|exact HMN0.out|exact HXN.out|exact HAN.out|exact HAB.out|exact HAB0.out|exact qa_|(simp only [← HZ4.out] <;> first|exact ok|exact HMN0.out|exact HXN.out|exact HAN.out|exact HAB.out|exact HAB0.out|exact qa_)) om) ?_
 refine tk3_ ?_
 refine nlS Y I fun vw4 J=>?_
 clear Y T I lx2
 go_wp2
 refine kF_ O ((J.out).aL (vw4.heap.size)) fun Wx4 I=>?_;clear O K
 clear J
 generalize vw4.heap.size=gx5 at *
 refine kS fun K O=>?_
 refine wp_region_lit ?_
 go_wp2
 refine kF_ O (I.out) fun Wx5 J=>?_;clear O K
 clear I;have I:=J;clear J
 refine wp_seq ?_
 have hd1:¬ (100<(((k:Nat):Int))):=by first|exact ok|exact HMN0.out|exact HXN.out|exact HAN.out|exact HAB.out|exact HAB0.out|exact qa_|(simp only [← HZ4.out] <;> first|exact ok|exact HMN0.out|exact HXN.out|exact HAN.out|exact HAB.out|exact HAB0.out|exact qa_)
 refine ks2_ fun K O T Y=>?_
 refine tk2_ ?_
 refine nlS Y I fun vw5 J=>?_
 clear Y T I
 go_wp2
 refine kO O ?_;clear O K
 have I:=J;clear J
 clear hd1
 refine wp_cond_false (by rfl) ?_
 refine wp_skip ?_
 show Code.wp _ _ _ _ _
 have lx3:=c1_ I
 refine ks5_ fun K O T Y=>?_
 refine tk ?_
 refine ck Tryz.call33 (fun w' hw=>qi_ mn _ _ rfl (by first|exact ok|exact HMN0.out|exact HXN.out|exact HAN.out|exact HAB.out|exact HAB0.out|exact qa_|(simp only [← HZ4.out] <;> first|exact ok|exact HMN0.out|exact HXN.out|exact HAN.out|exact HAB.out|exact HAB0.out|exact qa_)) om) ?_
 refine tk3_ ?_
 refine nlS Y I fun vw6 J=>?_
 clear Y T I lx3
 go_wp2
 refine kF_ O ((J.out).aL (vw6.heap.size)) fun Wx8 I=>?_;clear O K
 clear J
 generalize vw6.heap.size=gx6 at *
 have lx2:=c0_ I
 have lx3:=c1_ I
 refine qj6 fun K O T Y=>?_
 refine tk2_ ?_
 refine ck Tryz.call34 (fun w' hw=>qt1 mn a (0:Rat) _ 0 (fun _=>0) _ (lh_ (fs0 _ _)) om (lh_ (fsz0 _)) (lh_ rfl) (by first|omega|exact qd5 (qa4.2 (by decide +kernel)) (qa4.2 (by decide +kernel))) om om (lh_ (by first|exact ok|exact HMN0.out|exact HXN.out|exact HAN.out|exact HAB.out|exact HAB0.out|exact qa_|(simp only [← HZ4.out] <;> first|exact ok|exact HMN0.out|exact HXN.out|exact HAN.out|exact HAB.out|exact HAB0.out|exact qa_)))) ?_
 iterate 5 refine tk ?_
 refine nlS Y I fun vw7 J=>?_
 clear Y T I lx2 lx3
 go_wp2
 refine kO O ?_;clear O K
 have I:=J;clear J
 have HZ6:Hid (qabs a=ab):=lh_ (by first|exact ok|exact HMN0.out|exact HXN.out|exact HAN.out|exact HAB.out|exact HAB0.out|exact qa_|(simp only [← HZ4.out] <;> first|exact ok|exact HMN0.out|exact HXN.out|exact HAN.out|exact HAB.out|exact HAB0.out|exact qa_))
 have su6:sz ab≤4:=by have e:=HZ6.out;first|omega|(rw [← e];rw [qc8];omega)
 have HZ7:Hid (((1:Int):Rat)=(1:Rat)):=lh_ (by decide +kernel)
 have su7:sz ((1:Rat))≤2:=qd5 (qa4.2 (by decide +kernel)) (qa4.2 (by decide +kernel))
 have lx2:=c0_ I
 have lx3:=c1_ I
 refine kS fun K O=>?_
 have HG0:Hid (Gr vw7 vw7):=lh_ (Gr.refl _)
 refine qe4 10 [] [] (fun _=>0) (fun _=>.cells #[] 0) (fun i=>(1,#[.int .u64 (lo mn.num.natAbs),.string (bg mn.num.natAbs),.bool (mn.num<0),.int .u64 (lo (mn.den - 1)),.string (bg (mn.den - 1))],36)) [(0,0),(0,3),(1,4),(0,1),(0,2),(2,4),(0,5),(0,6),(0,7),(0,8),(0,9)] (by kernel_rfl) (by kernel_rfl) (fun i hi=>by cases hi) (fun i hi=>by cases hi) (fun _ _ _ _ _ h=>h) (fun T Y=>?_)
 iterate 2 (refine qc3 (v:=?_) rfl (by rfl) (fun w' hw=>?_) ?_;rotate_left;go_simp;with_reducible rfl;simp only [Act.put,lA,lB,lC])
 refine qh8 rfl (by rfl) (fun w'=>?_) ?_
 ·go_simp
 refine qa9 rfl (by rfl) Tryz.call31 (fun w' hw=>qd0 a ab _ HZ6.out) (by rfl) ?_
 simp only [Act.put,lA,lB,lC]
 refine qa9 rfl (by rfl) Tryz.call32 (fun w' hw=>qb5 (1) (1:Rat) _ HZ7.out om om) (by rfl) ?_
 simp only [Act.put,lA,lB,lC]
 refine qg4 rfl (by rfl) (fun gx7 vv7 hg0 yx7 bx7=>?_)
 clear yx7
 replace HG0:=lh_ (HG0.out.trans hg0)
 have HGS:=lh_ hg0;clear hg0
 clear HGS
 have BX7:=lh_ bx7;clear bx7
 clear lx2;have lx2:=fun w' (h:Gr _ w')=>c0_ I w' (HG0.out.trans h)
 clear lx3;have lx3:=fun w' (h:Gr _ w')=>c1_ I w' (HG0.out.trans h)
 simp only [Act.put,lA,lB,lC]
 refine qa9 rfl (by rfl) Tryz.call34 (fun w' hw=>qo9 ab (1:Rat) mn _ 1 (rf1_ mn) _ (lh_ (fs1 BX7.out hw)) om (lh_ (fsz1 om)) (lh_ (qB2 _)) (by first|omega|exact qd5 (qa4.2 (by decide +kernel)) (qa4.2 (by decide +kernel))) om om (lh_ (by first|exact ok|exact HMN0.out|exact HXN.out|exact HAN.out|exact HAB.out|exact HAB0.out|exact qa_|(simp only [← HZ4.out] <;> first|exact ok|exact HMN0.out|exact HXN.out|exact HAN.out|exact HAB.out|exact HAB0.out|exact qa_))) (lh_ (by first|exact ok|exact HMN0.out|exact HXN.out|exact HAN.out|exact HAB.out|exact HAB0.out|exact qa_|(simp only [← HZ4.out] <;> first|exact ok|exact HMN0.out|exact HXN.out|exact HAN.out|exact HAB.out|exact HAB0.out|exact qa_))) (lh_ (by first|exact ok|exact HMN0.out|exact HXN.out|exact HAN.out|exact HAB.out|exact HAB0.out|exact qa_|(simp only [← HZ4.out] <;> first|exact ok|exact HMN0.out|exact HXN.out|exact HAN.out|exact HAB.out|exact HAB0.out|exact qa_)))) (by rfl) ?_
 simp only [Act.put,lA,lB,lC]
 iterate 4 (refine qc3 (v:=?_) rfl (by rfl) (fun w' hw=>?_) ?_;rotate_left;go_simp;with_reducible rfl;simp only [Act.put,lA,lB,lC])
 refine qg7 (Y.out _ _ ?_)
 intro G vw8 hg hf
 simp only [puts,Act.put,lA,lB,lC,lD,lE,↓reduceIte,Nat.reduceEqDiff]
 have J:=lh_ (I.out.gr (HG0.out.trans hg))
 clear Y T I hg hf HG0 BX7 lx2 lx3
 go_wp2
 refine kF_ O ((J.out).er 1) fun Wx10 I=>?_;clear O K
 clear J
 refine wp_seq ?_
 have lx4:=c1_ I
 have lx6:=c3_ I
 refine qs3 fun K O T Y=>?_
 iterate 24 refine tk ?_
 refine nlS Y I fun vw9 J=>?_
 clear Y T I lx4 lx6
 go_wp2
 refine kF_ O ((J.out).er 3) fun Wx11 I=>?_;clear O K
 clear J
 refine wp_cond_false (by rfl) ?_
 refine wp_skip ?_
 show Code.wp _ _ _ _ _
 refine wp_seq ?_
 have hd2:¬ ((((k:Nat):Int))<0):=by first|exact ok|exact HMN0.out|exact HXN.out|exact HAN.out|exact HAB.out|exact HAB0.out|exact qa_|(simp only [← HZ4.out] <;> first|exact ok|exact HMN0.out|exact HXN.out|exact HAN.out|exact HAB.out|exact HAB0.out|exact qa_)
 have hd3:¬ (k<0):=by have e:=hd2;omega
 have hd4:¬ (100<(((k:Nat):Int))):=by first|exact ok|exact HMN0.out|exact HXN.out|exact HAN.out|exact HAB.out|exact HAB0.out|exact qa_|(simp only [← HZ4.out] <;> first|exact ok|exact HMN0.out|exact HXN.out|exact HAN.out|exact HAB.out|exact HAB0.out|exact qa_)
 have lx2:=c0_ I
 refine ql9 fun K O T Y=>?_
 iterate 8 refine tk ?_
 refine ck Tryz.call35 (fun w' hw=>qa5 a (-1) _ (by have e9:(a)<(0:Rat):=(by first|exact ok|exact HMN0.out|exact HXN.out|exact HAN.out|exact HAB.out|exact HAB0.out|exact qa_|(simp only [← HZ4.out] <;> first|exact ok|exact HMN0.out|exact HXN.out|exact HAN.out|exact HAB.out|exact HAB0.out|exact qa_));exact qf5 e9)) ?_
 refine tk2_ ?_
 refine nlS Y I fun vw10 J=>?_
 clear Y T I lx2
 go_wp2
 refine kF_ O ((J.out).er 0) fun Wx13 I=>?_;clear O K
 clear J
 clear hd2 hd3 hd4
 refine wp_cond_true (by rfl) ?_
 have HB:=HPb I
 have lx4:=c0_ I
 have lx5:=c1_ I
 refine xo_ fun K O T Y=>?_
 iterate 9 refine tk ?_
 refine ck Tryz.call22 (fun w' hw=>qa6 _ (lh_ (HT.out.gr (Gr.trans HB.out hw)))) ?_
 refine tk2_ ?_
 refine nlS Y I fun vw11 J=>?_
 clear Y T I lx4 lx5 HB
 go_wp2
 refine kF_ O (((J.out).er 1).er 0) fun Wx14 I=>?_;clear O K
 clear J
 refine wp_ret ?_
 try simp only [Exit.then,Exit.inBlock]
 exact bodyPost_ret (v:=.bool true) (by simp [results,Tryz.results5,go_sem]) rfl ⟨rfl,I.out.1⟩
theorem qM2 (n d:Int) (a ab mn:Rat) (k:Nat) (w:World) (HA0:Hid (qv n d=a)) (HAB:Hid (qabs a=ab)) (HAB0:Hid (0≤ab)) (hsab:sz ab≤10) (HMN:Hid (-(ab+(1:Rat))=mn)) (HMN0:Hid (mn<0)) (HXN:Hid (¬ exq mn*exq mn=mn)) (hsm:sz mn≤20) (h1:-9223372036854775808≤n) (h2:n≤9223372036854775807) (h3:0≤d) (h4:d≤4294967295) (hk:k≤100) (HAN:Hid (0≤a)) (HT:Hid (Tab w)) :
  Calls Tryz.prog 5 #[(Value.agg #[.int .i64 n,.int .u32 d]),.int .i64 (((k:Nat):Int))] w fun e w'=>e=.returned (.bool true)∧Below w.heap.size w w':=by
 go_enter Tryz.func5,Tryz.ntmps5
 have I:=lh_ (hp0 w)
 refine kS fun K O=>?_
 refine wp_region_lit ?_
 go_wp2
 refine kF_ O ((I.out).aL (w.heap.size)) fun Wx0 J=>?_;clear O K
 clear I;have I:=J;clear J
 have HZ1:Hid (qv n d=a):=lh_ (HA0.out)
 have su1:sz a≤4:=by have e:=HZ1.out;first|omega|(rw [← e];exact qh0 n d om om om om)
 have lx0:=c0_ I
 refine ks2_ fun K O T Y=>?_
 refine tk ?_
 refine ck Tryz.call24 (fun w' hw=>qf9 n d a _ HZ1.out om om om om) ?_
 refine nlS Y I fun vw1 J=>?_
 clear Y T I lx0
 go_wp2
 refine kF_ O (((J.out).aL (vw1.heap.size)).er 0) fun Wx1 I=>?_;clear O K
 clear J
 generalize vw1.heap.size=gx2 at *
 have HZ2:Hid (qabs a=ab):=lh_ (HAB.out)
 have su2:sz ab≤4:=by have e:=HZ2.out;first|omega|(rw [← e];rw [qc8];omega)
 have HZ3:Hid (((1:Int):Rat)=(1:Rat)):=lh_ (by decide +kernel)
 have su3:sz ((1:Rat))≤2:=qd5 (qa4.2 (by decide +kernel)) (qa4.2 (by decide +kernel))
 obtain ⟨u4,HZ4⟩:∃ z,Hid (ab+(1:Rat)=z):=⟨_,lh_ rfl⟩
 have su4:sz u4≤7:=by rw [← HZ4.out];have:=qe0 ab (1:Rat);omega
 have HZ5:Hid (-(u4)=mn):=lh_ (by rw [← HMN.out];simp only [← HZ4.out])
 have su5:sz mn≤20:=by have e:=HZ5.out;first|omega|(rw [← e];rw [qs0];omega)
 have lx2:=c0_ I
 refine ks5_ fun K O T Y=>?_
 refine tk ?_
 refine ck Tryz.call31 (fun w' hw=>qd0 a ab _ HZ2.out) ?_
 refine ck Tryz.call32 (fun w' hw=>qb5 (1) (1:Rat) _ HZ3.out om om) ?_
 refine ck Tryz.call30 (fun w' hw=>qc5 ab (1:Rat) u4 _ HZ4.out om om) ?_
 refine ck Tryz.call29 (fun w' hw=>qq2 u4 mn _ HZ5.out) ?_
 refine nlS Y I fun vw2 J=>?_
 clear Y T I lx2
 go_wp2
 refine kF_ O ((J.out).aL (vw2.heap.size)) fun Wx2 I=>?_;clear O K
 clear J
 generalize vw2.heap.size=gx3 at *
 have lx3:=c1_ I
 refine ks6_ fun K O T Y=>?_
 refine tk2_ ?_
 refine ck Tryz.call23 (fun w' hw=>qq5 mn k _ (by first|exact ok|exact HMN0.out|exact HXN.out|exact HAN.out|exact HAB.out|exact HAB0.out|exact qa_|(simp only [← HZ4.out] <;> first|exact ok|exact HMN0.out|exact HXN.out|exact HAN.out|exact HAB.out|exact HAB0.out|exact qa_)) om) ?_
 refine tk3_ ?_
 refine nlS Y I fun vw3 J=>?_
 clear Y T I lx3
 go_wp2
 refine kF_ O ((J.out).aL (vw3.heap.size)) fun Wx3 I=>?_;clear O K
 clear J
 generalize vw3.heap.size=gx4 at *
 obtain ⟨u6,HZ6⟩:∃ z,Hid (rhi a k=z):=⟨_,lh_ rfl⟩
 have su6:sz u6≤14:=by rw [← HZ6.out];exact Nat.le_trans (qd8 om om) om
 have lx2:=c0_ I
 refine ks6_ fun K O T Y=>?_
 refine tk2_ ?_
 refine ck Tryz.call25 (fun w' hw=>qb6 a u6 k _ (lh_ (by first|exact ok|exact HMN0.out|exact HXN.out|exact HAN.out|exact HAB.out|exact HAB0.out|exact qa_|(simp only [← HZ6.out,← HZ4.out] <;> first|exact ok|exact HMN0.out|exact HXN.out|exact HAN.out|exact HAB.out|exact HAB0.out|exact qa_))) (lh_ HZ6.out) om om) ?_
 refine tk3_ ?_
 refine nlS Y I fun vw4 J=>?_
 clear Y T I lx2
 go_wp2
 refine kF_ O ((J.out).aL (vw4.heap.size)) fun Wx4 I=>?_;clear O K
 clear J
 generalize vw4.heap.size=gx5 at *
 refine kS fun K O=>?_
 refine wp_region_lit ?_
 go_wp2
 refine kF_ O (I.out) fun Wx5 J=>?_;clear O K
 clear I;have I:=J;clear J
 refine wp_seq ?_
 have hd1:¬ (100<(((k:Nat):Int))):=by first|exact ok|exact HMN0.out|exact HXN.out|exact HAN.out|exact HAB.out|exact HAB0.out|exact qa_|(simp only [← HZ6.out,← HZ4.out] <;> first|exact ok|exact HMN0.out|exact HXN.out|exact HAN.out|exact HAB.out|exact HAB0.out|exact qa_)
 refine ks2_ fun K O T Y=>?_
 refine tk2_ ?_
 refine nlS Y I fun vw5 J=>?_
 clear Y T I
 go_wp2
 refine kO O ?_;clear O K
 have I:=J;clear J
 clear hd1
 refine wp_cond_false (by rfl) ?_
 refine wp_skip ?_
 show Code.wp _ _ _ _ _
 have lx3:=c1_ I
 refine ks5_ fun K O T Y=>?_
 refine tk ?_
 refine ck Tryz.call33 (fun w' hw=>qi_ mn _ _ rfl (by first|exact ok|exact HMN0.out|exact HXN.out|exact HAN.out|exact HAB.out|exact HAB0.out|exact qa_|(simp only [← HZ6.out,← HZ4.out] <;> first|exact ok|exact HMN0.out|exact HXN.out|exact HAN.out|exact HAB.out|exact HAB0.out|exact qa_)) om) ?_
 refine tk3_ ?_
 refine nlS Y I fun vw6 J=>?_
 clear Y T I lx3
 go_wp2
 refine kF_ O ((J.out).aL (vw6.heap.size)) fun Wx8 I=>?_;clear O K
 clear J
 generalize vw6.heap.size=gx6 at *
 have lx2:=c0_ I
 have lx3:=c1_ I
 refine qj6 fun K O T Y=>?_
 refine tk2_ ?_
 refine ck Tryz.call34 (fun w' hw=>qt1 mn a (0:Rat) _ 0 (fun _=>0) _ (lh_ (fs0 _ _)) om (lh_ (fsz0 _)) (lh_ rfl) (by first|omega|exact qd5 (qa4.2 (by decide +kernel)) (qa4.2 (by decide +kernel))) om om (lh_ (by first|exact ok|exact HMN0.out|exact HXN.out|exact HAN.out|exact HAB.out|exact HAB0.out|exact qa_|(simp only [← HZ6.out,← HZ4.out] <;> first|exact ok|exact HMN0.out|exact HXN.out|exact HAN.out|exact HAB.out|exact HAB0.out|exact qa_)))) ?_
 iterate 5 refine tk ?_
 refine nlS Y I fun vw7 J=>?_
 clear Y T I lx2 lx3
 go_wp2
 refine kO O ?_;clear O K
 have I:=J;clear J
 have HZ7:Hid (qabs a=ab):=lh_ (by first|exact ok|exact HMN0.out|exact HXN.out|exact HAN.out|exact HAB.out|exact HAB0.out|exact qa_|(simp only [← HZ6.out,← HZ4.out] <;> first|exact ok|exact HMN0.out|exact HXN.out|exact HAN.out|exact HAB.out|exact HAB0.out|exact qa_))
 have su7:sz ab≤4:=by have e:=HZ7.out;first|omega|(rw [← e];rw [qc8];omega)
 have HZ8:Hid (((1:Int):Rat)=(1:Rat)):=lh_ (by decide +kernel)
 have su8:sz ((1:Rat))≤2:=qd5 (qa4.2 (by decide +kernel)) (qa4.2 (by decide +kernel))
 have lx2:=c0_ I
 have lx3:=c1_ I
 refine kS fun K O=>?_
 have HG0:Hid (Gr vw7 vw7):=lh_ (Gr.refl _)
 refine qe4 10 [] [] (fun _=>0) (fun _=>.cells #[] 0) (fun i=>(1,#[.int .u64 (lo mn.num.natAbs),.string (bg mn.num.natAbs),.bool (mn.num<0),.int .u64 (lo (mn.den - 1)),.string (bg (mn.den - 1))],36)) [(0,0),(0,3),(1,4),(0,1),(0,2),(2,4),(0,5),(0,6),(0,7),(0,8),(0,9)] (by kernel_rfl) (by kernel_rfl) (fun i hi=>by cases hi) (fun i hi=>by cases hi) (fun _ _ _ _ _ h=>h) (fun T Y=>?_)
 iterate 2 (refine qc3 (v:=?_) rfl (by rfl) (fun w' hw=>?_) ?_;rotate_left;go_simp;with_reducible rfl;simp only [Act.put,lA,lB,lC])
 refine qh8 rfl (by rfl) (fun w'=>?_) ?_
 ·go_simp
 refine qa9 rfl (by rfl) Tryz.call31 (fun w' hw=>qd0 a ab _ HZ7.out) (by rfl) ?_
 simp only [Act.put,lA,lB,lC]
 refine qa9 rfl (by rfl) Tryz.call32 (fun w' hw=>qb5 (1) (1:Rat) _ HZ8.out om om) (by rfl) ?_
 simp only [Act.put,lA,lB,lC]
 refine qg4 rfl (by rfl) (fun gx7 vv7 hg0 yx7 bx7=>?_)
 clear yx7
 replace HG0:=lh_ (HG0.out.trans hg0)
 have HGS:=lh_ hg0;clear hg0
 clear HGS
 have BX7:=lh_ bx7;clear bx7
 clear lx2;have lx2:=fun w' (h:Gr _ w')=>c0_ I w' (HG0.out.trans h)
 clear lx3;have lx3:=fun w' (h:Gr _ w')=>c1_ I w' (HG0.out.trans h)
 simp only [Act.put,lA,lB,lC]
 refine qa9 rfl (by rfl) Tryz.call34 (fun w' hw=>qo9 ab (1:Rat) mn _ 1 (rf1_ mn) _ (lh_ (fs1 BX7.out hw)) om (lh_ (fsz1 om)) (lh_ (qB2 _)) (by first|omega|exact qd5 (qa4.2 (by decide +kernel)) (qa4.2 (by decide +kernel))) om om (lh_ (by first|exact ok|exact HMN0.out|exact HXN.out|exact HAN.out|exact HAB.out|exact HAB0.out|exact qa_|(simp only [← HZ6.out,← HZ4.out] <;> first|exact ok|exact HMN0.out|exact HXN.out|exact HAN.out|exact HAB.out|exact HAB0.out|exact qa_))) (lh_ (by first|exact ok|exact HMN0.out|exact HXN.out|exact HAN.out|exact HAB.out|exact HAB0.out|exact qa_|(simp only [← HZ6.out,← HZ4.out] <;> first|exact ok|exact HMN0.out|exact HXN.out|exact HAN.out|exact HAB.out|exact HAB0.out|exact qa_))) (lh_ (by first|exact ok|exact HMN0.out|exact HXN.out|exact HAN.out|exact HAB.out|exact HAB0.out|exact qa_|(simp only [← HZ6.out,← HZ4.out] <;> first|exact ok|exact HMN0.out|exact HXN.out|exact HAN.out|exact HAB.out|exact HAB0.out|exact qa_)))) (by rfl) ?_
 simp only [Act.put,lA,lB,lC]
 iterate 4 (refine qc3 (v:=?_) rfl (by rfl) (fun w' hw=>?_) ?_;rotate_left;go_simp;with_reducible rfl;simp only [Act.put,lA,lB,lC])
 refine qg7 (Y.out _ _ ?_)
 intro G vw8 hg hf
 simp only [puts,Act.put,lA,lB,lC,lD,lE,↓reduceIte,Nat.reduceEqDiff]
 have J:=lh_ (I.out.gr (HG0.out.trans hg))
 clear Y T I hg hf HG0 BX7 lx2 lx3
 go_wp2
 refine kF_ O ((J.out).er 1) fun Wx10 I=>?_;clear O K
 clear J
 refine wp_seq ?_
 have lx4:=c1_ I
 have lx6:=c3_ I
 refine qs3 fun K O T Y=>?_
 iterate 24 refine tk ?_
 refine nlS Y I fun vw9 J=>?_
 clear Y T I lx4 lx6
 go_wp2
 refine kF_ O ((J.out).er 3) fun Wx11 I=>?_;clear O K
 clear J
 refine wp_cond_false (by rfl) ?_
 refine wp_skip ?_
 show Code.wp _ _ _ _ _
 refine wp_seq ?_
 have hd2:¬ ((((k:Nat):Int))<0):=by first|exact ok|exact HMN0.out|exact HXN.out|exact HAN.out|exact HAB.out|exact HAB0.out|exact qa_|(simp only [← HZ6.out,← HZ4.out] <;> first|exact ok|exact HMN0.out|exact HXN.out|exact HAN.out|exact HAB.out|exact HAB0.out|exact qa_)
 have hd3:¬ (k<0):=by have e:=hd2;omega
 have hd4:¬ (100<(((k:Nat):Int))):=by first|exact ok|exact HMN0.out|exact HXN.out|exact HAN.out|exact HAB.out|exact HAB0.out|exact qa_|(simp only [← HZ6.out,← HZ4.out] <;> first|exact ok|exact HMN0.out|exact HXN.out|exact HAN.out|exact HAB.out|exact HAB0.out|exact qa_)
 obtain ⟨t9,HT9⟩:∃ z,Hid (sgQ a=z):=⟨_,lh_ rfl⟩
 have ht9:0≤t9:=by rw [← HT9.out];exact sgQ_nn0 HAN.out
 have hd5:¬ (t9<0):=by first|exact ok|exact HMN0.out|exact HXN.out|exact HAN.out|exact HAB.out|exact HAB0.out|exact qa_|(simp only [← HZ6.out,← HZ4.out] <;> first|exact ok|exact HMN0.out|exact HXN.out|exact HAN.out|exact HAB.out|exact HAB0.out|exact qa_)
 have lx2:=c0_ I
 refine ql9 fun K O T Y=>?_
 iterate 8 refine tk ?_
 refine ck Tryz.call35 (fun w' hw=>qa5 a t9 _ HT9.out) ?_
 refine tk2_ ?_
 refine nlS Y I fun vw10 J=>?_
 clear Y T I lx2
 go_wp2
 refine kF_ O ((J.out).er 0) fun Wx13 I=>?_;clear O K
 clear J
 clear hd2 hd3 hd4 ht9 hd5
 refine wp_cond_false (by rfl) ?_
 refine wp_skip ?_
 show Code.wp _ _ _ _ _
 have HB:=HPb I
 refine ks6_ fun K O T Y=>?_
 refine tk3_ ?_
 refine ck Tryz.call22 (fun w' hw=>qa6 _ (lh_ (HT.out.gr (Gr.trans HB.out hw)))) ?_
 refine tk2_ ?_
 refine nlS Y I fun vw11 J=>?_
 clear Y T I HB
 go_wp2
 refine kF_ O (((J.out).er 1).er 0) fun Wx15 I=>?_;clear O K
 clear J
 refine wp_ret ?_
 try simp only [Exit.then,Exit.inBlock]
 exact bodyPost_ret (v:=.bool true) (by simp [results,Tryz.results5,go_sem]) rfl ⟨rfl,I.out.1⟩
theorem qm9 (n d p:Int) (w:World) (h1:-9223372036854775808≤n) (h2:n≤9223372036854775807) (h3:0≤d) (h4:d≤4294967295) (HT:Hid (Tab w)) :
  Calls Tryz.prog 5 #[.agg #[.int .i64 n,.int .u32 d],.int .i64 p] w fun e w'=>e=.returned (.bool true)∧Below w.heap.size w w':=by
 have hm:=qU3 (qv n d)
 have hs:=Nat.le_trans (xd8 (qh0 n d h1 h2 h3 h4)) (show 4+2≤20 by decide)
 have hx:=xk3 hm
 have hsab:sz (qabs (qv n d))≤10:=by rw [qc8];exact Nat.le_trans (qh0 n d h1 h2 h3 h4) (by decide)
 by_cases c1:p<0
 ·exact qR8 n d _ _ _ p w (lh_ rfl) (lh_ rfl) (lh_ (qj2 _)) hsab (lh_ rfl) (lh_ hm) (lh_ hx) hs h1 h2 h3 h4 c1 HT
 ·by_cases c2:100<p
  ·exact qO3 n d _ _ _ p w (lh_ rfl) (lh_ rfl) (lh_ (qj2 _)) hsab (lh_ rfl) (lh_ hm) (lh_ hx) hs h1 h2 h3 h4 c2 HT
  ·obtain ⟨k,rfl⟩:∃ k:Nat,p=(k:Int):=⟨p.toNat,by omega⟩
   by_cases c3:qv n d<0
   ·exact qL3 n d _ _ _ k w (lh_ rfl) (lh_ rfl) (lh_ (qj2 _)) hsab (lh_ rfl) (lh_ hm) (lh_ hx) hs h1 h2 h3 h4 om (lh_ c3) HT
   ·exact qM2 n d _ _ _ k w (lh_ rfl) (lh_ rfl) (lh_ (qj2 _)) hsab (lh_ rfl) (lh_ hm) (lh_ hx) hs h1 h2 h3 h4 om (lh_ (by grind)) HT
end Go.Proofs.YtaflakcemiilaaaGreatDoor
