
/- fracs.Pow: what is rejected. -/
import Derived.Test.YtobojnodohjiaaaGreatDoorPV
set_option maxRecDepth 100000
set_option maxHeartbeats 16000000
set_option linter.unusedVariables false
set_option linter.unusedSimpArgs false
namespace Go.Proofs.YtobojnodohjiaaaGreatDoor
open Go.RowKit
attribute [local go_sem ↓] Go.wp_at_zero Go.wp_at_succ
attribute [local go_sem ↓] eq_nat eq_nat_zero eq_int
theorem xd7 (a:Rat) (n:Int) (w:World) (hn:n < -4096) :
  CB 151 #[(Value.agg #[.int .u64 (lo a.num.natAbs),.string (bg a.num.natAbs),.bool (a.num<0),.int .u64 (lo (a.den - 1)),.string (bg (a.den - 1))]),.int .i64 n] w ((.tuple #[(.agg #[.int .u64 0,.string ⟨#[]⟩,.bool false,.int .u64 0,.string ⟨#[]⟩]),.int .i64 1])):=by
 go_enter Tryz.func151,Tryz.ntmps151
 have I:=lh_ (hp0 w)
 refine kSl fun K O=>?_;go_wp2
 refine kF_ O (al2_ I) fun Wx0 J=>?_;clear O K
 clear I;have I:=J;clear J
 generalize w.heap.size+1=gx1 at *
 refine wp_seq ?_
 refine wp_block ?_
 have hd1:n < -4096:=ok
 refine ks7_ fun K O T Y=>?_
 refine tk3_ ?_
 iterate 2 refine sk ?_
 refine tk2_ ?_
 refine nz Y I O ?_;clear Y T I O K;intro vw1 I
 clear hd1
 refine wp_cond_true (by rfl) ?_
 refine ks1_ fun K O T Y=>?_
 refine tk ?_
 refine nlS Y I fun vw2 J=>?_
 clear Y T I
 have lx1:=kc1_ J;have fx1:=kf1_ J
 have r0:=Gr.refl vw2
 go_wp2
 refine kO O ?_;clear O K
 clear r0 lx1 fx1
 refine fH ((((J.out).put2 1 0 rfl).put2 1 2 rfl).put 1 4 _ rfl) fun Wx2 I=>?_
 clear J
 refine wp_ret ?_
 try simp only [Exit.then,Exit.inBlock]
 have lx1:=kc1_ I
 have r0:=Gr.refl Wx2
 exact bodyPost_ret (v:=.tuple #[(.agg #[.int .u64 0,.string ⟨#[]⟩,.bool false,.int .u64 0,.string ⟨#[]⟩]),.int .i64 1]) qG7 rfl ⟨rfl,I.out.1⟩
theorem xd6 (a:Rat) (n:Int) (w:World) (hn:4096<n) :
  CB 151 #[(Value.agg #[.int .u64 (lo a.num.natAbs),.string (bg a.num.natAbs),.bool (a.num<0),.int .u64 (lo (a.den - 1)),.string (bg (a.den - 1))]),.int .i64 n] w ((.tuple #[(.agg #[.int .u64 0,.string ⟨#[]⟩,.bool false,.int .u64 0,.string ⟨#[]⟩]),.int .i64 1])):=by
 go_enter Tryz.func151,Tryz.ntmps151
 have I:=lh_ (hp0 w)
 refine kSl fun K O=>?_;go_wp2
 refine kF_ O (al2_ I) fun Wx0 J=>?_;clear O K
 clear I;have I:=J;clear J
 generalize w.heap.size+1=gx1 at *
 refine wp_seq ?_
 refine wp_block ?_
 have hd1:¬ (n < -4096):=ok
 have hd2:4096<n:=ok
 refine ks7_ fun K O T Y=>?_
 iterate 7 refine tk ?_
 refine nz Y I O ?_;clear Y T I O K;intro vw1 I
 clear hd1 hd2
 refine wp_cond_true (by rfl) ?_
 refine ks1_ fun K O T Y=>?_
 refine tk ?_
 refine nlS Y I fun vw2 J=>?_
 clear Y T I
 have lx1:=kc1_ J;have fx1:=kf1_ J
 have r0:=Gr.refl vw2
 go_wp2
 refine kO O ?_;clear O K
 clear r0 lx1 fx1
 refine fH ((((J.out).put2 1 0 rfl).put2 1 2 rfl).put 1 4 _ rfl) fun Wx2 I=>?_
 clear J
 refine wp_ret ?_
 try simp only [Exit.then,Exit.inBlock]
 have lx1:=kc1_ I
 have r0:=Gr.refl Wx2
 exact bodyPost_ret (v:=.tuple #[(.agg #[.int .u64 0,.string ⟨#[]⟩,.bool false,.int .u64 0,.string ⟨#[]⟩]),.int .i64 1]) qG7 rfl ⟨rfl,I.out.1⟩
theorem fpow_lo (a:Rat) (n:Int) (w:World) (hn:n < -4096) :
  CB 151 #[(Value.agg #[.int .u64 (lo a.num.natAbs),.string (bg a.num.natAbs),.bool (a.num<0),.int .u64 (lo (a.den - 1)),.string (bg (a.den - 1))]),.int .i64 n] w (.tuple #[(Value.agg #[.int .u64 (lo (Int.natAbs (((0:Rat)).num))),.string (bg (Int.natAbs (((0:Rat)).num))),.bool (decide ((((0:Rat)).num)<0)),.int .u64 (lo (((0:Rat)).den - 1)),.string (bg (((0:Rat)).den - 1))]),.int .i64 1]):=xd7 a n w hn
theorem fpow_hi (a:Rat) (n:Int) (w:World) (hn:4096<n) :
  CB 151 #[(Value.agg #[.int .u64 (lo a.num.natAbs),.string (bg a.num.natAbs),.bool (a.num<0),.int .u64 (lo (a.den - 1)),.string (bg (a.den - 1))]),.int .i64 n] w (.tuple #[(Value.agg #[.int .u64 (lo (Int.natAbs (((0:Rat)).num))),.string (bg (Int.natAbs (((0:Rat)).num))),.bool (decide ((((0:Rat)).num)<0)),.int .u64 (lo (((0:Rat)).den - 1)),.string (bg (((0:Rat)).den - 1))]),.int .i64 1]):=xd6 a n w hn
end Go.Proofs.YtobojnodohjiaaaGreatDoor
