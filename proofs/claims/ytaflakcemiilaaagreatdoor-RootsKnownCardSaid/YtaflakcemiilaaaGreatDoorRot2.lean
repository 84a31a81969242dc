
/- roots: told, Below, Above. -/
import Derived.Test.YtaflakcemiilaaaGreatDoorRot1
set_option maxRecDepth 100000
set_option maxHeartbeats 16000000
set_option linter.unusedVariables false
set_option linter.unusedSimpArgs false
namespace Go.Proofs.YtaflakcemiilaaaGreatDoor
open Go.RowKit
attribute [local go_sem ↓] Go.wp_at_zero Go.wp_at_succ
attribute [local go_sem ↓] qd6 qa7 qf4
theorem sgQ_nn0 {a:Rat} (h:0≤a):0≤sgQ a:=by
 rcases qg1 a with ⟨h1,_⟩|⟨_,e⟩|⟨_,e⟩
 ·exfalso;grind
 ·rw [e];decide
 ·rw [e];decide
theorem qw4 (a:Rat) (n:Int) (w:World) (hn:n<0) :
  Calls Tryz.prog 92 #[.func (.func 93) #[] #[],(Value.agg #[.int .u64 (lo a.num.natAbs),.string (bg a.num.natAbs),.bool (a.num<0),.int .u64 (lo (a.den - 1)),.string (bg (a.den - 1))]),.int .i64 n] w fun e w'=>e=.returned ((.tuple #[(.agg #[.int .u64 0,.string ⟨#[]⟩,.bool false,.int .u64 0,.string ⟨#[]⟩]),.int .i64 1]))∧Below w.heap.size w w':=by
 go_enter Tryz.func92,Tryz.ntmps92
 have I:=lh_ (hp0 w)
 refine kS fun K O=>?_
 refine wp_region_lit ?_
 go_wp2
 refine kF_ O (((I.out).aL (w.heap.size)).aL (w.heap.size+1)) fun Wx0 J=>?_;clear O K
 clear I;have I:=J;clear J
 generalize w.heap.size+1=gx1 at *
 refine wp_seq ?_
 refine wp_block ?_
 have hd1:n<0:=by first|exact ok|exact HA.out
 refine ks3_ fun K O T Y=>?_
 refine tk3_ ?_
 refine nlS Y I fun vw1 J=>?_
 clear Y T I
 go_wp2
 refine kO O ?_;clear O K
 have I:=J;clear J
 clear hd1
 refine wp_cond_true (by rfl) ?_
 refine ks1_ fun K O T Y=>?_
 refine tk ?_
 refine nlS Y I fun vw2 J=>?_
 clear Y T I
 have lx1:=c1_ J;have fx1:=f1_ J
 have r0:=Gr.refl vw2
 go_wp2
 refine kO O ?_;clear O K
 clear r0 lx1 fx1
 refine fH ((((J.out).put2 1 0 rfl).put2 1 2 rfl).put 1 4 _ rfl) fun Wx2 I=>?_
 clear J
 refine wp_ret ?_
 try simp only [Exit.then,Exit.inBlock]
 have lx1:=c1_ I
 have r0:=Gr.refl Wx2
 exact bodyPost_ret (v:=.tuple #[(.agg #[.int .u64 0,.string ⟨#[]⟩,.bool false,.int .u64 0,.string ⟨#[]⟩]),.int .i64 1]) (by simp [results,Tryz.results92,go_sem,lx1 _ r0]) rfl ⟨rfl,I.out.1⟩
theorem qv7 (a:Rat) (n:Int) (w:World) (hn:100<n) :
  Calls Tryz.prog 92 #[.func (.func 93) #[] #[],(Value.agg #[.int .u64 (lo a.num.natAbs),.string (bg a.num.natAbs),.bool (a.num<0),.int .u64 (lo (a.den - 1)),.string (bg (a.den - 1))]),.int .i64 n] w fun e w'=>e=.returned ((.tuple #[(.agg #[.int .u64 0,.string ⟨#[]⟩,.bool false,.int .u64 0,.string ⟨#[]⟩]),.int .i64 3]))∧Below w.heap.size w w':=by
 go_enter Tryz.func92,Tryz.ntmps92
 have I:=lh_ (hp0 w)
 refine kS fun K O=>?_
 refine wp_region_lit ?_
 go_wp2
 refine kF_ O (((I.out).aL (w.heap.size)).aL (w.heap.size+1)) fun Wx0 J=>?_;clear O K
 clear I;have I:=J;clear J
 generalize w.heap.size+1=gx1 at *
 refine wp_seq ?_
 refine wp_block ?_
 have hd1:¬ (n<0):=by first|exact ok|exact HA.out
 refine ks3_ fun K O T Y=>?_
 refine tk3_ ?_
 refine nlS Y I fun vw1 J=>?_
 clear Y T I
 go_wp2
 refine kO O ?_;clear O K
 have I:=J;clear J
 clear hd1
 refine wp_cond_false (by rfl) ?_
 have hd2:100<n:=by first|exact ok|exact HA.out
 refine ks3_ fun K O T Y=>?_
 refine tk3_ ?_
 refine nlS Y I fun vw2 J=>?_
 clear Y T I
 go_wp2
 refine kO O ?_;clear O K
 have I:=J;clear J
 clear hd2
 refine wp_cond_true (by rfl) ?_
 refine ks1_ fun K O T Y=>?_
 refine tk ?_
 refine nlS Y I fun vw3 J=>?_
 clear Y T I
 have lx1:=c1_ J;have fx1:=f1_ J
 have r0:=Gr.refl vw3
 go_wp2
 refine kO O ?_;clear O K
 clear r0 lx1 fx1
 refine fH ((((J.out).put2 1 0 rfl).put2 1 2 rfl).put 1 4 _ rfl) fun Wx4 I=>?_
 clear J
 refine wp_ret ?_
 try simp only [Exit.then,Exit.inBlock]
 have lx1:=c1_ I
 have r0:=Gr.refl Wx4
 exact bodyPost_ret (v:=.tuple #[(.agg #[.int .u64 0,.string ⟨#[]⟩,.bool false,.int .u64 0,.string ⟨#[]⟩]),.int .i64 3]) (by simp [results,Tryz.results92,go_sem,lx1 _ r0]) rfl ⟨rfl,I.out.1⟩
theorem qu6 (a:Rat) (k:Nat) (w:World) (HA:Hid (a<0)) (hk:k≤100) :
  Calls Tryz.prog 92 #[.func (.func 93) #[] #[],(Value.agg #[.int .u64 (lo a.num.natAbs),.string (bg a.num.natAbs),.bool (a.num<0),.int .u64 (lo (a.den - 1)),.string (bg (a.den - 1))]),.int .i64 (((k:Nat):Int))] w fun e w'=>e=.returned ((.tuple #[(.agg #[.int .u64 0,.string ⟨#[]⟩,.bool false,.int .u64 0,.string ⟨#[]⟩]),.int .i64 1]))∧Below w.heap.size w w':=by
 go_enter Tryz.func92,Tryz.ntmps92
 have I:=lh_ (hp0 w)
 refine kS fun K O=>?_
 refine wp_region_lit ?_
 go_wp2
 refine kF_ O (((I.out).aL (w.heap.size)).aL (w.heap.size+1)) fun Wx0 J=>?_;clear O K
 clear I;have I:=J;clear J
 generalize w.heap.size+1=gx1 at *
 refine wp_seq ?_
 refine wp_block ?_
 have hd1:¬ ((((k:Nat):Int))<0):=by first|exact ok|exact HA.out
 have hd2:¬ (k<0):=by have e:=hd1;omega
 refine ks3_ fun K O T Y=>?_
 refine tk3_ ?_
 refine nlS Y I fun vw1 J=>?_
 clear Y T I
 go_wp2
 refine kO O ?_;clear O K
 have I:=J;clear J
 clear hd1 hd2
 refine wp_cond_false (by rfl) ?_
 have hd3:¬ (100<(((k:Nat):Int))):=by first|exact ok|exact HA.out
 refine ks3_ fun K O T Y=>?_
 refine tk3_ ?_
 refine nlS Y I fun vw2 J=>?_
 clear Y T I
 go_wp2
 refine kO O ?_;clear O K
 have I:=J;clear J
 clear hd3
 refine wp_cond_false (by rfl) ?_
 have lx0:=c0_ I
 refine ks4_ fun K O T Y=>?_
 refine tk ?_
 refine ck Tryz.call35 (fun w' hw=>qa5 a (-1) _ (by have e9:(a)<(0:Rat):=(by first|exact ok|exact HA.out);exact qf5 e9)) ?_
 refine tk2_ ?_
 refine nlS Y I fun vw3 J=>?_
 clear Y T I lx0
 go_wp2
 refine kO O ?_;clear O K
 have I:=J;clear J
 refine wp_cond_true (by rfl) ?_
 refine ks1_ fun K O T Y=>?_
 refine tk ?_
 refine nlS Y I fun vw4 J=>?_
 clear Y T I
 have lx1:=c1_ J;have fx1:=f1_ J
 have r0:=Gr.refl vw4
 go_wp2
 refine kO O ?_;clear O K
 clear r0 lx1 fx1
 refine fH ((((J.out).put2 1 0 rfl).put2 1 2 rfl).put 1 4 _ rfl) fun Wx6 I=>?_
 clear J
 refine wp_ret ?_
 try simp only [Exit.then,Exit.inBlock]
 have lx1:=c1_ I
 have r0:=Gr.refl Wx6
 exact bodyPost_ret (v:=.tuple #[(.agg #[.int .u64 0,.string ⟨#[]⟩,.bool false,.int .u64 0,.string ⟨#[]⟩]),.int .i64 1]) (by simp [results,Tryz.results92,go_sem,lx1 _ r0]) rfl ⟨rfl,I.out.1⟩
theorem qw6 (a z:Rat) (k p:Nat) (w:World) (HA:Hid (0≤a)) (HP:Hid (2 ^ k=p)) (HZ:Hid (rlo a k=z)) (hk:k≤100) (hs:sz a≤1000) :
  Calls Tryz.prog 92 #[.func (.func 93) #[] #[],(Value.agg #[.int .u64 (lo a.num.natAbs),.string (bg a.num.natAbs),.bool (a.num<0),.int .u64 (lo (a.den - 1)),.string (bg (a.den - 1))]),.int .i64 (((k:Nat):Int))] w fun e w'=>e=.returned ((.tuple #[(Value.agg #[.int .u64 (lo z.num.natAbs),.string (bg z.num.natAbs),.bool (z.num<0),.int .u64 (lo (z.den - 1)),.string (bg (z.den - 1))]),.int .i64 0]))∧Below w.heap.size w w':=by
 go_enter Tryz.func92,Tryz.ntmps92
 have I:=lh_ (hp0 w)
 refine kS fun K O=>?_
 refine wp_region_lit ?_
 go_wp2
 refine kF_ O (((I.out).aL (w.heap.size)).aL (w.heap.size+1)) fun Wx0 J=>?_;clear O K
 clear I;have I:=J;clear J
 generalize w.heap.size+1=gx1 at *
 refine wp_seq ?_
 refine wp_block ?_
 have hd1:¬ ((((k:Nat):Int))<0):=by first|exact ok|exact HA.out
 have hd2:¬ (k<0):=by have e:=hd1;omega
 refine ks3_ fun K O T Y=>?_
 refine tk3_ ?_
 refine nlS Y I fun vw1 J=>?_
 clear Y T I
 go_wp2
 refine kO O ?_;clear O K
 have I:=J;clear J
 clear hd1 hd2
 refine wp_cond_false (by rfl) ?_
 have hd3:¬ (100<(((k:Nat):Int))):=by first|exact ok|exact HA.out
 refine ks3_ fun K O T Y=>?_
 refine tk3_ ?_
 refine nlS Y I fun vw2 J=>?_
 clear Y T I
 go_wp2
 refine kO O ?_;clear O K
 have I:=J;clear J
 clear hd3
 refine wp_cond_false (by rfl) ?_
 obtain ⟨t1,HT1⟩:∃ z,Hid (sgQ a=z):=⟨_,lh_ rfl⟩
 have ht1:0≤t1:=by rw [← HT1.out];exact sgQ_nn0 HA.out
 have hd4:¬ (t1<0):=by first|exact ok|exact HA.out
 have lx0:=c0_ I
 refine ks4_ fun K O T Y=>?_
 refine tk ?_
 refine ck Tryz.call35 (fun w' hw=>qa5 a t1 _ HT1.out) ?_
 refine tk2_ ?_
 refine nlS Y I fun vw3 J=>?_
 clear Y T I lx0
 go_wp2
 refine kO O ?_;clear O K
 have I:=J;clear J
 clear ht1 hd4
 refine wp_cond_false (by rfl) ?_
 refine wp_skip ?_
 show Code.wp _ _ _ _ _
 have su_0_7:wl 2≤1:=qa4.2 (by decide +kernel)
 have HZ2:Hid ((2) ^ k=p):=lh_ (HP.out)
 have su2:wl p≤8192:=by have e:=HZ2.out;first|omega|(rw [← e];exact qm2 _ _ (by rw [show nb 2=2 from by decide +kernel];omega))
 refine ks6_ fun K O T Y=>?_
 refine ck Tryz.call124 (fun w' hw=>nzof 2 _ (by decide)) ?_
 refine tk ?_
 refine ck Tryz.call170 (fun w' hw=>qC0 (2) k p _ HZ2.out om (by rw [show nb 2=2 from by decide +kernel];omega) om) ?_
 refine tk3_ ?_
 refine nlS Y I fun vw4 J=>?_
 clear Y T I
 go_wp2
 refine kF_ O ((J.out).aL (vw4.heap.size)) fun Wx7 I=>?_;clear O K
 clear J
 generalize vw4.heap.size=gx3 at *
 have HZ3:Hid (rlo a k=z):=lh_ (HZ.out)
 have su3:sz z≤1009:=by have e:=HZ3.out;first|omega|(rw [← e];exact qd2 om om)
 have lx0:=c0_ I
 have lx3:=c2_ I
 refine ks5_ fun K O T Y=>?_
 iterate 4 refine tk ?_
 refine qr9 rfl (by rfl) (by rfl) Tryz.call93 (fun w' hw=>qS0 a k p z _ HP.out HZ3.out om om) (by rfl) ?_
 simp only [Act.put,lA,lB,lC]
 refine nlS Y I fun vw5 J=>?_
 clear Y T I lx0 lx3
 have lx1:=c1_ J;have fx1:=f1_ J
 have r0:=Gr.refl vw5
 go_wp2
 refine kO O ?_;clear O K
 clear r0 lx1 fx1
 refine fH ((((((J.out).put2 1 0 rfl).put2 1 2 rfl).put 1 4 _ rfl).er 2).er 0) fun Wx8 I=>?_
 clear J
 refine wp_ret ?_
 try simp only [Exit.then,Exit.inBlock]
 have lx1:=c0_ I
 have r0:=Gr.refl Wx8
 exact bodyPost_ret (v:=.tuple #[(.agg #[.int .u64 (lo z.num.natAbs),.string (bg z.num.natAbs),.bool (z.num<0),.int .u64 (lo (z.den - 1)),.string (bg (z.den - 1))]),.int .i64 0]) (by simp [results,Tryz.results92,go_sem,lx1 _ r0]) rfl ⟨rfl,I.out.1⟩
theorem qw7 (a:Rat) (n:Int) (w:World) (hn:n<0) :
  Calls Tryz.prog 92 #[.func (.func 95) #[] #[],(Value.agg #[.int .u64 (lo a.num.natAbs),.string (bg a.num.natAbs),.bool (a.num<0),.int .u64 (lo (a.den - 1)),.string (bg (a.den - 1))]),.int .i64 n] w fun e w'=>e=.returned ((.tuple #[(.agg #[.int .u64 0,.string ⟨#[]⟩,.bool false,.int .u64 0,.string ⟨#[]⟩]),.int .i64 1]))∧Below w.heap.size w w':=by
 go_enter Tryz.func92,Tryz.ntmps92
 have I:=lh_ (hp0 w)
 refine kS fun K O=>?_
 refine wp_region_lit ?_
 go_wp2
 refine kF_ O (((I.out).aL (w.heap.size)).aL (w.heap.size+1)) fun Wx0 J=>?_;clear O K
 clear I;have I:=J;clear J
 generalize w.heap.size+1=gx1 at *
 refine wp_seq ?_
 refine wp_block ?_
 have hd1:n<0:=by first|exact ok|exact HA.out
 refine ks3_ fun K O T Y=>?_
 refine tk3_ ?_
 refine nlS Y I fun vw1 J=>?_
 clear Y T I
 go_wp2
 refine kO O ?_;clear O K
 have I:=J;clear J
 clear hd1
 refine wp_cond_true (by rfl) ?_
 refine ks1_ fun K O T Y=>?_
 refine tk ?_
 refine nlS Y I fun vw2 J=>?_
 clear Y T I
 have lx1:=c1_ J;have fx1:=f1_ J
 have r0:=Gr.refl vw2
 go_wp2
 refine kO O ?_;clear O K
 clear r0 lx1 fx1
 refine fH ((((J.out).put2 1 0 rfl).put2 1 2 rfl).put 1 4 _ rfl) fun Wx2 I=>?_
 clear J
 refine wp_ret ?_
 try simp only [Exit.then,Exit.inBlock]
 have lx1:=c1_ I
 have r0:=Gr.refl Wx2
 exact bodyPost_ret (v:=.tuple #[(.agg #[.int .u64 0,.string ⟨#[]⟩,.bool false,.int .u64 0,.string ⟨#[]⟩]),.int .i64 1]) (by simp [results,Tryz.results92,go_sem,lx1 _ r0]) rfl ⟨rfl,I.out.1⟩
theorem qw2 (a:Rat) (n:Int) (w:World) (hn:100<n) :
  Calls Tryz.prog 92 #[.func (.func 95) #[] #[],(Value.agg #[.int .u64 (lo a.num.natAbs),.string (bg a.num.natAbs),.bool (a.num<0),.int .u64 (lo (a.den - 1)),.string (bg (a.den - 1))]),.int .i64 n] w fun e w'=>e=.returned ((.tuple #[(.agg #[.int .u64 0,.string ⟨#[]⟩,.bool false,.int .u64 0,.string ⟨#[]⟩]),.int .i64 3]))∧Below w.heap.size w w':=by
 go_enter Tryz.func92,Tryz.ntmps92
 have I:=lh_ (hp0 w)
 refine kS fun K O=>?_
 refine wp_region_lit ?_
 go_wp2
 refine kF_ O (((I.out).aL (w.heap.size)).aL (w.heap.size+1)) fun Wx0 J=>?_;clear O K
 clear I;have I:=J;clear J
 generalize w.heap.size+1=gx1 at *
 refine wp_seq ?_
 refine wp_block ?_
 have hd1:¬ (n<0):=by first|exact ok|exact HA.out
 refine ks3_ fun K O T Y=>?_
 refine tk3_ ?_
 refine nlS Y I fun vw1 J=>?_
 clear Y T I
 go_wp2
 refine kO O ?_;clear O K
 have I:=J;clear J
 clear hd1
 refine wp_cond_false (by rfl) ?_
 have hd2:100<n:=by first|exact ok|exact HA.out
 refine ks3_ fun K O T Y=>?_
 refine tk3_ ?_
 refine nlS Y I fun vw2 J=>?_
 clear Y T I
 go_wp2
 refine kO O ?_;clear O K
 have I:=J;clear J
 clear hd2
 refine wp_cond_true (by rfl) ?_
 refine ks1_ fun K O T Y=>?_
 refine tk ?_
 refine nlS Y I fun vw3 J=>?_
 clear Y T I
 have lx1:=c1_ J;have fx1:=f1_ J
 have r0:=Gr.refl vw3
 go_wp2
 refine kO O ?_;clear O K
 clear r0 lx1 fx1
 refine fH ((((J.out).put2 1 0 rfl).put2 1 2 rfl).put 1 4 _ rfl) fun Wx4 I=>?_
 clear J
 refine wp_ret ?_
 try simp only [Exit.then,Exit.inBlock]
 have lx1:=c1_ I
 have r0:=Gr.refl Wx4
 exact bodyPost_ret (v:=.tuple #[(.agg #[.int .u64 0,.string ⟨#[]⟩,.bool false,.int .u64 0,.string ⟨#[]⟩]),.int .i64 3]) (by simp [results,Tryz.results92,go_sem,lx1 _ r0]) rfl ⟨rfl,I.out.1⟩
theorem qv1 (a:Rat) (k:Nat) (w:World) (HA:Hid (a<0)) (hk:k≤100) :
  Calls Tryz.prog 92 #[.func (.func 95) #[] #[],(Value.agg #[.int .u64 (lo a.num.natAbs),.string (bg a.num.natAbs),.bool (a.num<0),.int .u64 (lo (a.den - 1)),.string (bg (a.den - 1))]),.int .i64 (((k:Nat):Int))] w fun e w'=>e=.returned ((.tuple #[(.agg #[.int .u64 0,.string ⟨#[]⟩,.bool false,.int .u64 0,.string ⟨#[]⟩]),.int .i64 1]))∧Below w.heap.size w w':=by
 go_enter Tryz.func92,Tryz.ntmps92
 have I:=lh_ (hp0 w)
 refine kS fun K O=>?_
 refine wp_region_lit ?_
 go_wp2
 refine kF_ O (((I.out).aL (w.heap.size)).aL (w.heap.size+1)) fun Wx0 J=>?_;clear O K
 clear I;have I:=J;clear J
 generalize w.heap.size+1=gx1 at *
 refine wp_seq ?_
 refine wp_block ?_
 have hd1:¬ ((((k:Nat):Int))<0):=by first|exact ok|exact HA.out
 have hd2:¬ (k<0):=by have e:=hd1;omega
 refine ks3_ fun K O T Y=>?_
 refine tk3_ ?_
 refine nlS Y I fun vw1 J=>?_
 clear Y T I
 go_wp2
 refine kO O ?_;clear O K
 have I:=J;clear J
 clear hd1 hd2
 refine wp_cond_false (by rfl) ?_
 have hd3:¬ (100<(((k:Nat):Int))):=by first|exact ok|exact HA.out
 refine ks3_ fun K O T Y=>?_
 refine tk3_ ?_
 refine nlS Y I fun vw2 J=>?_
 clear Y T I
 go_wp2
 refine kO O ?_;clear O K
 have I:=J;clear J
 clear hd3
 refine wp_cond_false (by rfl) ?_
 have lx0:=c0_ I
 refine ks4_ fun K O T Y=>?_
 refine tk ?_
 refine ck Tryz.call35 (fun w' hw=>qa5 a (-1) _ (by have e9:(a)<(0:Rat):=(by first|exact ok|exact HA.out);exact qf5 e9)) ?_
 refine tk2_ ?_
 refine nlS Y I fun vw3 J=>?_
 clear Y T I lx0
 go_wp2
 refine kO O ?_;clear O K
 have I:=J;clear J
 refine wp_cond_true (by rfl) ?_
 refine ks1_ fun K O T Y=>?_
 refine tk ?_
 refine nlS Y I fun vw4 J=>?_
 clear Y T I
 have lx1:=c1_ J;have fx1:=f1_ J
 have r0:=Gr.refl vw4
 go_wp2
 refine kO O ?_;clear O K
 clear r0 lx1 fx1
 refine fH ((((J.out).put2 1 0 rfl).put2 1 2 rfl).put 1 4 _ rfl) fun Wx6 I=>?_
 clear J
 refine wp_ret ?_
 try simp only [Exit.then,Exit.inBlock]
 have lx1:=c1_ I
 have r0:=Gr.refl Wx6
 exact bodyPost_ret (v:=.tuple #[(.agg #[.int .u64 0,.string ⟨#[]⟩,.bool false,.int .u64 0,.string ⟨#[]⟩]),.int .i64 1]) (by simp [results,Tryz.results92,go_sem,lx1 _ r0]) rfl ⟨rfl,I.out.1⟩
theorem qw5 (a z:Rat) (k p:Nat) (w:World) (HA:Hid (0≤a)) (HP:Hid (2 ^ k=p)) (HZ:Hid (rhi a k=z)) (hk:k≤100) (hs:sz a≤1000) :
  Calls Tryz.prog 92 #[.func (.func 95) #[] #[],(Value.agg #[.int .u64 (lo a.num.natAbs),.string (bg a.num.natAbs),.bool (a.num<0),.int .u64 (lo (a.den - 1)),.string (bg (a.den - 1))]),.int .i64 (((k:Nat):Int))] w fun e w'=>e=.returned ((.tuple #[(Value.agg #[.int .u64 (lo z.num.natAbs),.string (bg z.num.natAbs),.bool (z.num<0),.int .u64 (lo (z.den - 1)),.string (bg (z.den - 1))]),.int .i64 0]))∧Below w.heap.size w w':=by
 go_enter Tryz.func92,Tryz.ntmps92
 have I:=lh_ (hp0 w)
 refine kS fun K O=>?_
 refine wp_region_lit ?_
 go_wp2
 refine kF_ O (((I.out).aL (w.heap.size)).aL (w.heap.size+1)) fun Wx0 J=>?_;clear O K
 clear I;have I:=J;clear J
 generalize w.heap.size+1=gx1 at *
 refine wp_seq ?_
 refine wp_block ?_
 have hd1:¬ ((((k:Nat):Int))<0):=by first|exact ok|exact HA.out
 have hd2:¬ (k<0):=by have e:=hd1;omega
 refine ks3_ fun K O T Y=>?_
 refine tk3_ ?_
 refine nlS Y I fun vw1 J=>?_
 clear Y T I
 go_wp2
 refine kO O ?_;clear O K
 have I:=J;clear J
 clear hd1 hd2
 refine wp_cond_false (by rfl) ?_
 have hd3:¬ (100<(((k:Nat):Int))):=by first|exact ok|exact HA.out
 refine ks3_ fun K O T Y=>?_
 refine tk3_ ?_
 refine nlS Y I fun vw2 J=>?_
 clear Y T I
 go_wp2
 refine kO O ?_;clear O K
 have I:=J;clear J
 clear hd3
 refine wp_cond_false (by rfl) ?_
 obtain ⟨t1,HT1⟩:∃ z,Hid (sgQ a=z):=⟨_,lh_ rfl⟩
 have ht1:0≤t1:=by rw [← HT1.out];exact sgQ_nn0 HA.out
 have hd4:¬ (t1<0):=by first|exact ok|exact HA.out
 have lx0:=c0_ I
 refine ks4_ fun K O T Y=>?_
 refine tk ?_
 refine ck Tryz.call35 (fun w' hw=>qa5 a t1 _ HT1.out) ?_
 refine tk2_ ?_
 refine nlS Y I fun vw3 J=>?_
 clear Y T I lx0
 go_wp2
 refine kO O ?_;clear O K
 have I:=J;clear J
 clear ht1 hd4
 refine wp_cond_false (by rfl) ?_
 refine wp_skip ?_
 show Code.wp _ _ _ _ _
 have su_0_7:wl 2≤1:=qa4.2 (by decide +kernel)
 have HZ2:Hid ((2) ^ k=p):=lh_ (HP.out)
 have su2:wl p≤8192:=by have e:=HZ2.out;first|omega|(rw [← e];exact qm2 _ _ (by rw [show nb 2=2 from by decide +kernel];omega))
 refine ks6_ fun K O T Y=>?_
 refine ck Tryz.call124 (fun w' hw=>nzof 2 _ (by decide)) ?_
 refine tk ?_
 refine ck Tryz.call170 (fun w' hw=>qC0 (2) k p _ HZ2.out om (by rw [show nb 2=2 from by decide +kernel];omega) om) ?_
 refine tk3_ ?_
 refine nlS Y I fun vw4 J=>?_
 clear Y T I
 go_wp2
 refine kF_ O ((J.out).aL (vw4.heap.size)) fun Wx7 I=>?_;clear O K
 clear J
 generalize vw4.heap.size=gx3 at *
 have HZ3:Hid (rhi a k=z):=lh_ (HZ.out)
 have su3:sz z≤1010:=by have e:=HZ3.out;first|omega|(rw [← e];exact qd8 om om)
 have lx0:=c0_ I
 have lx3:=c2_ I
 refine ks5_ fun K O T Y=>?_
 iterate 4 refine tk ?_
 refine qr9 rfl (by rfl) (by rfl) Tryz.call95 (fun w' hw=>xx9 a k p z _ HP.out HZ3.out om om) (by rfl) ?_
 simp only [Act.put,lA,lB,lC]
 refine nlS Y I fun vw5 J=>?_
 clear Y T I lx0 lx3
 have lx1:=c1_ J;have fx1:=f1_ J
 have r0:=Gr.refl vw5
 go_wp2
 refine kO O ?_;clear O K
 clear r0 lx1 fx1
 refine fH ((((((J.out).put2 1 0 rfl).put2 1 2 rfl).put 1 4 _ rfl).er 2).er 0) fun Wx8 I=>?_
 clear J
 refine wp_ret ?_
 try simp only [Exit.then,Exit.inBlock]
 have lx1:=c0_ I
 have r0:=Gr.refl Wx8
 exact bodyPost_ret (v:=.tuple #[(.agg #[.int .u64 (lo z.num.natAbs),.string (bg z.num.natAbs),.bool (z.num<0),.int .u64 (lo (z.den - 1)),.string (bg (z.den - 1))]),.int .i64 0]) (by simp [results,Tryz.results92,go_sem,lx1 _ r0]) rfl ⟨rfl,I.out.1⟩
theorem qU0 (a:Rat) (n:Int) (w:World) (hn:n<0) :
  Calls Tryz.prog 23 #[(Value.agg #[.int .u64 (lo a.num.natAbs),.string (bg a.num.natAbs),.bool (a.num<0),.int .u64 (lo (a.den - 1)),.string (bg (a.den - 1))]),.int .i64 n] w fun e w'=>e=.returned ((.tuple #[(.agg #[.int .u64 0,.string ⟨#[]⟩,.bool false,.int .u64 0,.string ⟨#[]⟩]),.int .i64 1]))∧Below w.heap.size w w':=by
 go_enter Tryz.func23,Tryz.ntmps23
 have I:=lh_ (hp0 w)
 refine kS fun K O=>?_
 refine wp_region_lit ?_
 go_wp2
 refine kF_ O (((I.out).aL (w.heap.size)).aL (w.heap.size+1)) fun Wx0 J=>?_;clear O K
 clear I;have I:=J;clear J
 generalize w.heap.size+1=gx1 at *
 have lx0:=c0_ I
 refine ks5_ fun K O T Y=>?_
 refine tk2_ ?_
 refine ck Tryz.call92 (fun w' hw=>qw4 a n _ om) ?_
 refine tk2_ ?_
 refine nlS Y I fun vw1 J=>?_
 clear Y T I lx0
 have lx1:=c1_ J;have fx1:=f1_ J
 have r0:=Gr.refl vw1
 go_wp2
 refine kO O ?_;clear O K
 clear r0 lx1 fx1
 refine fH (((((J.out).put2 1 0 rfl).put2 1 2 rfl).put 1 4 _ rfl).er 0) fun Wx1 I=>?_
 clear J
 refine wp_ret ?_
 try simp only [Exit.then,Exit.inBlock]
 have lx1:=c0_ I
 have r0:=Gr.refl Wx1
 exact bodyPost_ret (v:=.tuple #[(.agg #[.int .u64 0,.string ⟨#[]⟩,.bool false,.int .u64 0,.string ⟨#[]⟩]),.int .i64 1]) (by simp [results,Tryz.results23,go_sem,lx1 _ r0]) rfl ⟨rfl,I.out.1⟩
theorem qO6 (a:Rat) (n:Int) (w:World) (hn:100<n) :
  Calls Tryz.prog 23 #[(Value.agg #[.int .u64 (lo a.num.natAbs),.string (bg a.num.natAbs),.bool (a.num<0),.int .u64 (lo (a.den - 1)),.string (bg (a.den - 1))]),.int .i64 n] w fun e w'=>e=.returned ((.tuple #[(.agg #[.int .u64 0,.string ⟨#[]⟩,.bool false,.int .u64 0,.string ⟨#[]⟩]),.int .i64 3]))∧Below w.heap.size w w':=by
 go_enter Tryz.func23,Tryz.ntmps23
 have I:=lh_ (hp0 w)
 refine kS fun K O=>?_
 refine wp_region_lit ?_
 go_wp2
 refine kF_ O (((I.out).aL (w.heap.size)).aL (w.heap.size+1)) fun Wx0 J=>?_;clear O K
 clear I;have I:=J;clear J
 generalize w.heap.size+1=gx1 at *
 have lx0:=c0_ I
 refine ks5_ fun K O T Y=>?_
 refine tk2_ ?_
 refine ck Tryz.call92 (fun w' hw=>qv7 a n _ om) ?_
 refine tk2_ ?_
 refine nlS Y I fun vw1 J=>?_
 clear Y T I lx0
 have lx1:=c1_ J;have fx1:=f1_ J
 have r0:=Gr.refl vw1
 go_wp2
 refine kO O ?_;clear O K
 clear r0 lx1 fx1
 refine fH (((((J.out).put2 1 0 rfl).put2 1 2 rfl).put 1 4 _ rfl).er 0) fun Wx1 I=>?_
 clear J
 refine wp_ret ?_
 try simp only [Exit.then,Exit.inBlock]
 have lx1:=c0_ I
 have r0:=Gr.refl Wx1
 exact bodyPost_ret (v:=.tuple #[(.agg #[.int .u64 0,.string ⟨#[]⟩,.bool false,.int .u64 0,.string ⟨#[]⟩]),.int .i64 3]) (by simp [results,Tryz.results23,go_sem,lx1 _ r0]) rfl ⟨rfl,I.out.1⟩
theorem qK7 (a:Rat) (k:Nat) (w:World) (HA:Hid (a<0)) (hk:k≤100) :
  Calls Tryz.prog 23 #[(Value.agg #[.int .u64 (lo a.num.natAbs),.string (bg a.num.natAbs),.bool (a.num<0),.int .u64 (lo (a.den - 1)),.string (bg (a.den - 1))]),.int .i64 (((k:Nat):Int))] w fun e w'=>e=.returned ((.tuple #[(.agg #[.int .u64 0,.string ⟨#[]⟩,.bool false,.int .u64 0,.string ⟨#[]⟩]),.int .i64 1]))∧Below w.heap.size w w':=by
 go_enter Tryz.func23,Tryz.ntmps23
 have I:=lh_ (hp0 w)
 refine kS fun K O=>?_
 refine wp_region_lit ?_
 go_wp2
 refine kF_ O (((I.out).aL (w.heap.size)).aL (w.heap.size+1)) fun Wx0 J=>?_;clear O K
 clear I;have I:=J;clear J
 generalize w.heap.size+1=gx1 at *
 have lx0:=c0_ I
 refine ks5_ fun K O T Y=>?_
 refine tk2_ ?_
 refine ck Tryz.call92 (fun w' hw=>qu6 a k _ HA om) ?_
 refine tk2_ ?_
 refine nlS Y I fun vw1 J=>?_
 clear Y T I lx0
 have lx1:=c1_ J;have fx1:=f1_ J
 have r0:=Gr.refl vw1
 go_wp2
 refine kO O ?_;clear O K
 clear r0 lx1 fx1
 refine fH (((((J.out).put2 1 0 rfl).put2 1 2 rfl).put 1 4 _ rfl).er 0) fun Wx1 I=>?_
 clear J
 refine wp_ret ?_
 try simp only [Exit.then,Exit.inBlock]
 have lx1:=c0_ I
 have r0:=Gr.refl Wx1
 exact bodyPost_ret (v:=.tuple #[(.agg #[.int .u64 0,.string ⟨#[]⟩,.bool false,.int .u64 0,.string ⟨#[]⟩]),.int .i64 1]) (by simp [results,Tryz.results23,go_sem,lx1 _ r0]) rfl ⟨rfl,I.out.1⟩
theorem qb1 (a z:Rat) (k:Nat) (w:World) (HA:Hid (0≤a)) (HZ:Hid (rlo a k=z)) (hk:k≤100) (hs:sz a≤1000) :
  Calls Tryz.prog 23 #[(Value.agg #[.int .u64 (lo a.num.natAbs),.string (bg a.num.natAbs),.bool (a.num<0),.int .u64 (lo (a.den - 1)),.string (bg (a.den - 1))]),.int .i64 (((k:Nat):Int))] w fun e w'=>e=.returned ((.tuple #[(Value.agg #[.int .u64 (lo z.num.natAbs),.string (bg z.num.natAbs),.bool (z.num<0),.int .u64 (lo (z.den - 1)),.string (bg (z.den - 1))]),.int .i64 0]))∧Below w.heap.size w w':=by
 go_enter Tryz.func23,Tryz.ntmps23
 have I:=lh_ (hp0 w)
 refine kS fun K O=>?_
 refine wp_region_lit ?_
 go_wp2
 refine kF_ O (((I.out).aL (w.heap.size)).aL (w.heap.size+1)) fun Wx0 J=>?_;clear O K
 clear I;have I:=J;clear J
 generalize w.heap.size+1=gx1 at *
 have lx0:=c0_ I
 refine ks5_ fun K O T Y=>?_
 refine tk2_ ?_
 refine ck Tryz.call92 (fun w' hw=>qw6 a z k _ _ HA (lh_ rfl) HZ om om) ?_
 refine tk2_ ?_
 refine nlS Y I fun vw1 J=>?_
 clear Y T I lx0
 have lx1:=c1_ J;have fx1:=f1_ J
 have r0:=Gr.refl vw1
 go_wp2
 refine kO O ?_;clear O K
 clear r0 lx1 fx1
 refine fH (((((J.out).put2 1 0 rfl).put2 1 2 rfl).put 1 4 _ rfl).er 0) fun Wx1 I=>?_
 clear J
 refine wp_ret ?_
 try simp only [Exit.then,Exit.inBlock]
 have lx1:=c0_ I
 have r0:=Gr.refl Wx1
 exact bodyPost_ret (v:=.tuple #[(.agg #[.int .u64 (lo z.num.natAbs),.string (bg z.num.natAbs),.bool (z.num<0),.int .u64 (lo (z.den - 1)),.string (bg (z.den - 1))]),.int .i64 0]) (by simp [results,Tryz.results23,go_sem,lx1 _ r0]) rfl ⟨rfl,I.out.1⟩
theorem qQ1 (a:Rat) (n:Int) (w:World) (hn:n<0) :
  Calls Tryz.prog 25 #[(Value.agg #[.int .u64 (lo a.num.natAbs),.string (bg a.num.natAbs),.bool (a.num<0),.int .u64 (lo (a.den - 1)),.string (bg (a.den - 1))]),.int .i64 n] w fun e w'=>e=.returned ((.tuple #[(.agg #[.int .u64 0,.string ⟨#[]⟩,.bool false,.int .u64 0,.string ⟨#[]⟩]),.int .i64 1]))∧Below w.heap.size w w':=by
 go_enter Tryz.func25,Tryz.ntmps25
 have I:=lh_ (hp0 w)
 refine kS fun K O=>?_
 refine wp_region_lit ?_
 go_wp2
 refine kF_ O (((I.out).aL (w.heap.size)).aL (w.heap.size+1)) fun Wx0 J=>?_;clear O K
 clear I;have I:=J;clear J
 generalize w.heap.size+1=gx1 at *
 have lx0:=c0_ I
 refine ks5_ fun K O T Y=>?_
 refine tk2_ ?_
 refine ck Tryz.call92 (fun w' hw=>qw7 a n _ om) ?_
 refine tk2_ ?_
 refine nlS Y I fun vw1 J=>?_
 clear Y T I lx0
 have lx1:=c1_ J;have fx1:=f1_ J
 have r0:=Gr.refl vw1
 go_wp2
 refine kO O ?_;clear O K
 clear r0 lx1 fx1
 refine fH (((((J.out).put2 1 0 rfl).put2 1 2 rfl).put 1 4 _ rfl).er 0) fun Wx1 I=>?_
 clear J
 refine wp_ret ?_
 try simp only [Exit.then,Exit.inBlock]
 have lx1:=c0_ I
 have r0:=Gr.refl Wx1
 exact bodyPost_ret (v:=.tuple #[(.agg #[.int .u64 0,.string ⟨#[]⟩,.bool false,.int .u64 0,.string ⟨#[]⟩]),.int .i64 1]) (by simp [results,Tryz.results25,go_sem,lx1 _ r0]) rfl ⟨rfl,I.out.1⟩
theorem qL_ (a:Rat) (n:Int) (w:World) (hn:100<n) :
  Calls Tryz.prog 25 #[(Value.agg #[.int .u64 (lo a.num.natAbs),.string (bg a.num.natAbs),.bool (a.num<0),.int .u64 (lo (a.den - 1)),.string (bg (a.den - 1))]),.int .i64 n] w fun e w'=>e=.returned ((.tuple #[(.agg #[.int .u64 0,.string ⟨#[]⟩,.bool false,.int .u64 0,.string ⟨#[]⟩]),.int .i64 3]))∧Below w.heap.size w w':=by
 go_enter Tryz.func25,Tryz.ntmps25
 have I:=lh_ (hp0 w)
 refine kS fun K O=>?_
 refine wp_region_lit ?_
 go_wp2
 refine kF_ O (((I.out).aL (w.heap.size)).aL (w.heap.size+1)) fun Wx0 J=>?_;clear O K
 clear I;have I:=J;clear J
 generalize w.heap.size+1=gx1 at *
 have lx0:=c0_ I
 refine ks5_ fun K O T Y=>?_
 refine tk2_ ?_
 refine ck Tryz.call92 (fun w' hw=>qw2 a n _ om) ?_
 refine tk2_ ?_
 refine nlS Y I fun vw1 J=>?_
 clear Y T I lx0
 have lx1:=c1_ J;have fx1:=f1_ J
 have r0:=Gr.refl vw1
 go_wp2
 refine kO O ?_;clear O K
 clear r0 lx1 fx1
 refine fH (((((J.out).put2 1 0 rfl).put2 1 2 rfl).put 1 4 _ rfl).er 0) fun Wx1 I=>?_
 clear J
 refine wp_ret ?_
 try simp only [Exit.then,Exit.inBlock]
 have lx1:=c0_ I
 have r0:=Gr.refl Wx1
 exact bodyPost_ret (v:=.tuple #[(.agg #[.int .u64 0,.string ⟨#[]⟩,.bool false,.int .u64 0,.string ⟨#[]⟩]),.int .i64 3]) (by simp [results,Tryz.results25,go_sem,lx1 _ r0]) rfl ⟨rfl,I.out.1⟩
theorem qL2 (a:Rat) (k:Nat) (w:World) (HA:Hid (a<0)) (hk:k≤100) :
  Calls Tryz.prog 25 #[(Value.agg #[.int .u64 (lo a.num.natAbs),.string (bg a.num.natAbs),.bool (a.num<0),.int .u64 (lo (a.den - 1)),.string (bg (a.den - 1))]),.int .i64 (((k:Nat):Int))] w fun e w'=>e=.returned ((.tuple #[(.agg #[.int .u64 0,.string ⟨#[]⟩,.bool false,.int .u64 0,.string ⟨#[]⟩]),.int .i64 1]))∧Below w.heap.size w w':=by
 go_enter Tryz.func25,Tryz.ntmps25
 have I:=lh_ (hp0 w)
 refine kS fun K O=>?_
 refine wp_region_lit ?_
 go_wp2
 refine kF_ O (((I.out).aL (w.heap.size)).aL (w.heap.size+1)) fun Wx0 J=>?_;clear O K
 clear I;have I:=J;clear J
 generalize w.heap.size+1=gx1 at *
 have lx0:=c0_ I
 refine ks5_ fun K O T Y=>?_
 refine tk2_ ?_
 refine ck Tryz.call92 (fun w' hw=>qv1 a k _ HA om) ?_
 refine tk2_ ?_
 refine nlS Y I fun vw1 J=>?_
 clear Y T I lx0
 have lx1:=c1_ J;have fx1:=f1_ J
 have r0:=Gr.refl vw1
 go_wp2
 refine kO O ?_;clear O K
 clear r0 lx1 fx1
 refine fH (((((J.out).put2 1 0 rfl).put2 1 2 rfl).put 1 4 _ rfl).er 0) fun Wx1 I=>?_
 clear J
 refine wp_ret ?_
 try simp only [Exit.then,Exit.inBlock]
 have lx1:=c0_ I
 have r0:=Gr.refl Wx1
 exact bodyPost_ret (v:=.tuple #[(.agg #[.int .u64 0,.string ⟨#[]⟩,.bool false,.int .u64 0,.string ⟨#[]⟩]),.int .i64 1]) (by simp [results,Tryz.results25,go_sem,lx1 _ r0]) rfl ⟨rfl,I.out.1⟩
theorem qb6 (a z:Rat) (k:Nat) (w:World) (HA:Hid (0≤a)) (HZ:Hid (rhi a k=z)) (hk:k≤100) (hs:sz a≤1000) :
  Calls Tryz.prog 25 #[(Value.agg #[.int .u64 (lo a.num.natAbs),.string (bg a.num.natAbs),.bool (a.num<0),.int .u64 (lo (a.den - 1)),.string (bg (a.den - 1))]),.int .i64 (((k:Nat):Int))] w fun e w'=>e=.returned ((.tuple #[(Value.agg #[.int .u64 (lo z.num.natAbs),.string (bg z.num.natAbs),.bool (z.num<0),.int .u64 (lo (z.den - 1)),.string (bg (z.den - 1))]),.int .i64 0]))∧Below w.heap.size w w':=by
 go_enter Tryz.func25,Tryz.ntmps25
 have I:=lh_ (hp0 w)
 refine kS fun K O=>?_
 refine wp_region_lit ?_
 go_wp2
 refine kF_ O (((I.out).aL (w.heap.size)).aL (w.heap.size+1)) fun Wx0 J=>?_;clear O K
 clear I;have I:=J;clear J
 generalize w.heap.size+1=gx1 at *
 have lx0:=c0_ I
 refine ks5_ fun K O T Y=>?_
 refine tk2_ ?_
 refine ck Tryz.call92 (fun w' hw=>qw5 a z k _ _ HA (lh_ rfl) HZ om om) ?_
 refine tk2_ ?_
 refine nlS Y I fun vw1 J=>?_
 clear Y T I lx0
 have lx1:=c1_ J;have fx1:=f1_ J
 have r0:=Gr.refl vw1
 go_wp2
 refine kO O ?_;clear O K
 clear r0 lx1 fx1
 refine fH (((((J.out).put2 1 0 rfl).put2 1 2 rfl).put 1 4 _ rfl).er 0) fun Wx1 I=>?_
 clear J
 refine wp_ret ?_
 try simp only [Exit.then,Exit.inBlock]
 have lx1:=c0_ I
 have r0:=Gr.refl Wx1
 exact bodyPost_ret (v:=.tuple #[(.agg #[.int .u64 (lo z.num.natAbs),.string (bg z.num.natAbs),.bool (z.num<0),.int .u64 (lo (z.den - 1)),.string (bg (z.den - 1))]),.int .i64 0]) (by simp [results,Tryz.results25,go_sem,lx1 _ r0]) rfl ⟨rfl,I.out.1⟩
theorem qB6 (a:Rat) (n:Int) (w:World) (hn:n<0) :
  Calls Tryz.prog 23 #[(Value.agg #[.int .u64 (lo a.num.natAbs),.string (bg a.num.natAbs),.bool (a.num<0),.int .u64 (lo (a.den - 1)),.string (bg (a.den - 1))]),.int .i64 n] w fun e w'=>e=.returned (.tuple #[(Value.agg #[.int .u64 (lo (Int.natAbs (((0:Rat)).num))),.string (bg (Int.natAbs (((0:Rat)).num))),.bool (decide ((((0:Rat)).num)<0)),.int .u64 (lo (((0:Rat)).den - 1)),.string (bg (((0:Rat)).den - 1))]),.int .i64 1])∧Below w.heap.size w w':=qU0 a n w hn
theorem qw_ (a:Rat) (n:Int) (w:World) (hn:100<n) :
  Calls Tryz.prog 23 #[(Value.agg #[.int .u64 (lo a.num.natAbs),.string (bg a.num.natAbs),.bool (a.num<0),.int .u64 (lo (a.den - 1)),.string (bg (a.den - 1))]),.int .i64 n] w fun e w'=>e=.returned (.tuple #[(Value.agg #[.int .u64 (lo (Int.natAbs (((0:Rat)).num))),.string (bg (Int.natAbs (((0:Rat)).num))),.bool (decide ((((0:Rat)).num)<0)),.int .u64 (lo (((0:Rat)).den - 1)),.string (bg (((0:Rat)).den - 1))]),.int .i64 3])∧Below w.heap.size w w':=qO6 a n w hn
theorem qq5 (a:Rat) (k:Nat) (w:World) (ha:a<0) (hk:k≤100) :
  Calls Tryz.prog 23 #[(Value.agg #[.int .u64 (lo a.num.natAbs),.string (bg a.num.natAbs),.bool (a.num<0),.int .u64 (lo (a.den - 1)),.string (bg (a.den - 1))]),.int .i64 ((k:Nat):Int)] w fun e w'=>e=.returned (.tuple #[(Value.agg #[.int .u64 (lo (Int.natAbs (((0:Rat)).num))),.string (bg (Int.natAbs (((0:Rat)).num))),.bool (decide ((((0:Rat)).num)<0)),.int .u64 (lo (((0:Rat)).den - 1)),.string (bg (((0:Rat)).den - 1))]),.int .i64 1])∧Below w.heap.size w w':=qK7 a k w (lh_ ha) hk
theorem qB_ (a:Rat) (n:Int) (w:World) (hn:n<0) :
  Calls Tryz.prog 25 #[(Value.agg #[.int .u64 (lo a.num.natAbs),.string (bg a.num.natAbs),.bool (a.num<0),.int .u64 (lo (a.den - 1)),.string (bg (a.den - 1))]),.int .i64 n] w fun e w'=>e=.returned (.tuple #[(Value.agg #[.int .u64 (lo (Int.natAbs (((0:Rat)).num))),.string (bg (Int.natAbs (((0:Rat)).num))),.bool (decide ((((0:Rat)).num)<0)),.int .u64 (lo (((0:Rat)).den - 1)),.string (bg (((0:Rat)).den - 1))]),.int .i64 1])∧Below w.heap.size w w':=qQ1 a n w hn
theorem qx_ (a:Rat) (n:Int) (w:World) (hn:100<n) :
  Calls Tryz.prog 25 #[(Value.agg #[.int .u64 (lo a.num.natAbs),.string (bg a.num.natAbs),.bool (a.num<0),.int .u64 (lo (a.den - 1)),.string (bg (a.den - 1))]),.int .i64 n] w fun e w'=>e=.returned (.tuple #[(Value.agg #[.int .u64 (lo (Int.natAbs (((0:Rat)).num))),.string (bg (Int.natAbs (((0:Rat)).num))),.bool (decide ((((0:Rat)).num)<0)),.int .u64 (lo (((0:Rat)).den - 1)),.string (bg (((0:Rat)).den - 1))]),.int .i64 3])∧Below w.heap.size w w':=qL_ a n w hn
theorem qy0 (a:Rat) (k:Nat) (w:World) (ha:a<0) (hk:k≤100) :
  Calls Tryz.prog 25 #[(Value.agg #[.int .u64 (lo a.num.natAbs),.string (bg a.num.natAbs),.bool (a.num<0),.int .u64 (lo (a.den - 1)),.string (bg (a.den - 1))]),.int .i64 ((k:Nat):Int)] w fun e w'=>e=.returned (.tuple #[(Value.agg #[.int .u64 (lo (Int.natAbs (((0:Rat)).num))),.string (bg (Int.natAbs (((0:Rat)).num))),.bool (decide ((((0:Rat)).num)<0)),.int .u64 (lo (((0:Rat)).den - 1)),.string (bg (((0:Rat)).den - 1))]),.int .i64 1])∧Below w.heap.size w w':=qL2 a k w (lh_ ha) hk
end Go.Proofs.YtaflakcemiilaaaGreatDoor
