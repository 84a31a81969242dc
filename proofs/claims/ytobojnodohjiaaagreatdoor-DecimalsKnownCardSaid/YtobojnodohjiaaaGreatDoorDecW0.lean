
/- gussetlaw04: of, text, read, cycles. -/
import Derived.Test.YtobojnodohjiaaaGreatDoorDecR
import Derived.Test.YtobojnodohjiaaaGreatDoorDecC
import Derived.Test.YtobojnodohjiaaaGreatDoorFieldP
set_option maxRecDepth 100000
set_option maxHeartbeats 16000000
set_option linter.unusedVariables false
set_option linter.unusedSimpArgs false
namespace Go.Proofs.YtobojnodohjiaaaGreatDoor
open Go.RowKit
attribute [local go_sem ↓] Go.wp_at_zero Go.wp_at_succ
attribute [local go_sem ↓] eq_nat eq_nat_zero eq_int
theorem qR7 (a:Rat) (n way c:Int) (w:World) (HC:Hid (qh5 n way=c)) (hc0:¬ c=0) (hs:sz a≤900) :
  CB 170 #[(Value.agg #[.int .u64 (lo a.num.natAbs),.string (bg a.num.natAbs),.bool (a.num<0),.int .u64 (lo (a.den - 1)),.string (bg (a.den - 1))]),.int .i64 n,.int .i64 way] w ((.tuple #[.string ⟨#[]⟩,.int .i64 c])):=by
 go_enter Tryz.func170,Tryz.ntmps170
 have I:=lh_ (hp0 w)
 refine kSl fun K O=>?_;go_wp2
 refine kO O ?_;clear O K
 obtain ⟨W1,HW1⟩:=ex_ (((w.alloc (.cells #[.int .u64 (lo a.num.natAbs),.string (bg a.num.natAbs),.bool (a.num<0),.int .u64 (lo (a.den - 1)),.string (bg (a.den - 1))] 36)).alloc (.cells #[.int .i64 n] 3)))
 rw [HW1.out]
 have BX0:Hid (Bx W1 (w.heap.size) 36 #[.int .u64 (lo a.num.natAbs),.string (bg a.num.natAbs),.bool (a.num<0),.int .u64 (lo (a.den - 1)),.string (bg (a.den - 1))]):=lh_ (by rw [← HW1.out];exact (Bx.at rfl).alloc _)
 have BX1:Hid (Bx W1 (w.heap.size+1) 3 #[.int .i64 n]):=lh_ (by rw [← HW1.out];exact Bx.at (by simp))
 have HBW:Hid (Below w.heap.size w W1):=lh_ (by rw [← HW1.out];exact ((Below.refl _ _).alloc (Nat.le_refl _) _).alloc (by simp) _)
 clear I;have I:=lh_ (hp0 W1);clear HW1
 have lx0:=(BX0.out.gr I.out.1).cells
 have lx1:=(BX1.out.gr I.out.1).cells
 refine ks7_ fun K O T Y=>?_
 refine tk3_ ?_
 refine ck Tryz.call239 (fun w' hw=>qM9 a n way c _ (HC.out) hc0 om) ?_
 refine tk3_ ?_
 refine nlS Y I fun vw1 J=>?_
 clear Y T I lx0 lx1
 go_wp2
 refine kF_ O ((J.out).aL (vw1.heap.size)) fun Wx1 I=>?_;clear O K
 clear J
 generalize vw1.heap.size=gx3 at *
 refine wp_seq ?_
 have hd1:(c == (0))=false:=by have:¬ (c=0):=(ok);simpa using this
 have hd2:(c != (0))=true:=by have:¬ (c=0):=(ok);simpa using this
 refine ks2_ fun K O T Y=>?_
 refine tk2_ ?_
 refine nz Y I O ?_;clear Y T I O K;intro vw2 I
 clear hd1 hd2
 refine wp_cond_true (by rfl) ?_
 refine ks3_ fun K O T Y=>?_
 refine tk3_ ?_
 refine nz Y I O ?_;clear Y T I O K;intro vw3 I
 refine wp_ret ?_
 try simp only [Exit.then,Exit.inBlock]
 exact bR ⟨rfl,HBW.out.trans (I.out.1.mono HBW.out.size)⟩ (by simp [results,Tryz.results170,go_sem])
theorem qp3 (a:Rat) (n way c:Int) (w:World) (hc:qh5 n way=c) (h0:¬ c=0) (hs:sz a≤900) :
  CB 170 #[(Value.agg #[.int .u64 (lo a.num.natAbs),.string (bg a.num.natAbs),.bool (a.num<0),.int .u64 (lo (a.den - 1)),.string (bg (a.den - 1))]),.int .i64 n,.int .i64 way] w (.tuple #[.string ⟨#[]⟩,.int .i64 c]):=qR7 a n way c w (lh_ hc) h0 hs
theorem qe9 (n d:Int) (z:Rat) (w:World) (HZ:Hid ((n:Rat) / (d:Rat)=z)) (hd:d≠0) (h1:-9223372036854775808≤n) (h2:n≤9223372036854775807) (h3:-9223372036854775808≤d) (h4:d≤9223372036854775807) :
  CB 166 #[.int .i64 n,.int .i64 d] w (.agg #[.int .u64 (lo z.num.natAbs),.string (bg z.num.natAbs),.bool (z.num<0),.int .u64 (lo (z.den - 1)),.string (bg (z.den - 1))]):=by
 go_enter Tryz.func166,Tryz.ntmps166
 have I:=lh_ (hp0 w)
 refine kSl fun K O=>?_;go_wp2
 refine kF_ O (al1_ I) fun Wx0 J=>?_;clear O K
 clear I;have I:=J;clear J
 have HZ1:Hid (((n:Int):Rat) / ((d:Int):Rat)=z):=lh_ (HZ.out)
 have su1:sz z≤4:=by have e:=HZ1.out;first|omega|(rw [← e];exact qs2 n d om om om om)
 refine ks6_ fun K O T Y=>?_
 refine tk2_ ?_
 refine ck Tryz.call104 (fun w' hw=>qB0 n d z _ HZ1.out (by first|decide|omega) om om om om) ?_
 refine tk3_ ?_
 refine nlS Y I fun vw1 J=>?_
 clear Y T I
 go_wp2
 refine kF_ O ((J.out).aL (vw1.heap.size)) fun Wx1 I=>?_;clear O K
 clear J
 generalize vw1.heap.size=gx2 at *
 have lx2:=kc1_ I
 refine ks1_ fun K O T Y=>?_
 refine tk ?_
 refine nlS Y I fun vw2 J=>?_
 clear Y T I lx2
 have lx0:=kc0_ J;have fx0:=kf0_ J
 have r0:=Gr.refl vw2
 go_wp2
 refine kO O ?_;clear O K
 clear r0 lx0 fx0
 refine fH (((((J.out).put2 0 0 rfl).put2 0 2 rfl).put 0 4 _ rfl).er 1) fun Wx2 I=>?_
 clear J
 refine wp_ret ?_
 try simp only [Exit.then,Exit.inBlock]
 have lx0:=kc0_ I
 have r0:=Gr.refl Wx2
 exact bR ⟨rfl,I.out.1⟩ (by simp [results,Tryz.results166,go_sem,lx0 _ r0])
theorem qg5 (a:Rat) (k:Nat) (way:Int) (r:ByteArray) (w:World) (HR:Hid (dtx (rnd way (a*(((10 ^ k:Nat):Int):Rat))) k=r)) (hw1:1≤way) (hw2:way≤3) (hk:k≤100) (hs:sz a≤900) (HT:Hid (Tab w)) :
  CB 167 #[(Value.agg #[.int .u64 (lo a.num.natAbs),.string (bg a.num.natAbs),.bool (a.num<0),.int .u64 (lo (a.den - 1)),.string (bg (a.den - 1))]),.int .i64 (((k:Nat):Int)),.int .i64 way] w ((.string r)):=by
 go_enter Tryz.func167,Tryz.ntmps167
 have I:=lh_ (hp0 w)
 refine kSl fun K O=>?_;go_wp2
 refine kF_ O (al1_ I) fun Wx0 J=>?_;clear O K
 clear I;have I:=J;clear J
 have HB:=HPb I
 have lx0:=kc0_ I
 refine ks9_ fun K O T Y=>?_
 refine tk3_ ?_
 refine ck Tryz.call170 (fun w' hw=>xv9 way a k r _ (HR.out) om om om om (lh_ (HT.out.gr (Gr.trans HB.out hw)))) ?_
 iterate 5 refine tk ?_
 refine nzR Y O (fun w2 hg=>(I.out.gr hg).er 0) ?_;clear Y T I lx0 HB O K;intro Wx1 I
 refine wp_seq ?_
 refine ks2_ fun K O T Y=>?_
 refine tk2_ ?_
 refine nz Y I O ?_;clear Y T I O K;intro vw2 I
 refine wp_cond_false (by rfl) ?_
 refine wp_skip ?_
 show Code.wp _ _ _ _ _
 refine ks2_ fun K O T Y=>?_
 refine tk2_ ?_
 refine nz Y I O ?_;clear Y T I O K;intro vw3 I
 refine wp_ret ?_
 try simp only [Exit.then,Exit.inBlock]
 exact bR ⟨rfl,I.out.1⟩ (by simp [results,Tryz.results167,go_sem])
theorem qZ3 (s:ByteArray) (q:Rat) (w:World) (HN:Hid (dnum s=q)) (HC:Hid (qg0 s=0)) (hs:s.size≤9223372036854775807) (hq:sz q≤1000) (HT:Hid (Tab w)) :
  CB 171 #[.string s] w ((.string (ftx q))):=by
 go_enter Tryz.func171,Tryz.ntmps171
 have I:=lh_ (hp0 w)
 refine kSl fun K O=>?_;go_wp2
 refine kF_ O (I.out) fun Wx0 J=>?_;clear O K
 clear I;have I:=J;clear J
 refine ks5_ fun K O T Y=>?_
 refine tk ?_
 refine ck Tryz.call63 (fun w' hw=>qE2 s q (0) _ HN.out HC.out om) ?_
 refine tk3_ ?_
 refine nlS Y I fun vw1 J=>?_
 clear Y T I
 go_wp2
 refine kF_ O ((J.out).aL (vw1.heap.size)) fun Wx1 I=>?_;clear O K
 clear J
 generalize vw1.heap.size=gx1 at *
 refine wp_seq ?_
 refine ks2_ fun K O T Y=>?_
 refine tk2_ ?_
 refine nz Y I O ?_;clear Y T I O K;intro vw2 I
 refine wp_cond_false (by rfl) ?_
 refine wp_skip ?_
 show Code.wp _ _ _ _ _
 have HB:=HPb I
 have lx1:=kc0_ I
 refine ks3_ fun K O T Y=>?_
 refine tk ?_
 refine ck Tryz.call153 (fun w' hw=>qw3 q _ om (lh_ (HT.out.gr (Gr.trans HB.out hw)))) ?_
 refine tk ?_
 refine nzR Y O (fun w2 hg=>(I.out.gr hg).er 0) ?_;clear Y T I lx1 HB O K;intro Wx4 I
 refine wp_ret ?_
 try simp only [Exit.then,Exit.inBlock]
 exact bR ⟨rfl,I.out.1⟩ (by simp [results,Tryz.results171,go_sem])
theorem qM8 (s t:ByteArray) (q:Rat) (w:World) (HN:Hid (dnum s=q)) (HC:Hid (qg0 s=0)) (HTX:Hid (ftx q=t)) (hs:s.size≤9223372036854775807) (hq:sz q≤1000) (HT:Hid (Tab w)) :
  CB 171 #[.string s] w (.string t):=HTX.out ▸ qZ3 s q w HN HC hs hq HT
theorem qu1 (s:ByteArray) (w:World) (HN:Hid (dnum s=0)) (HC:Hid (qg0 s=4)) (hs:s.size≤9223372036854775807) (HT:Hid (Tab w)) :
  CB 171 #[.string s] w ((.string ⟨#[110,111,110,101]⟩)):=by
 go_enter Tryz.func171,Tryz.ntmps171
 have I:=lh_ (hp0 w)
 refine kSl fun K O=>?_;go_wp2
 refine kF_ O (I.out) fun Wx0 J=>?_;clear O K
 clear I;have I:=J;clear J
 refine ks5_ fun K O T Y=>?_
 refine tk ?_
 refine ck Tryz.call63 (fun w' hw=>qE2 s (0:Rat) (4) _ HN.out HC.out om) ?_
 refine tk3_ ?_
 refine nlS Y I fun vw1 J=>?_
 clear Y T I
 go_wp2
 refine kF_ O ((J.out).aL (vw1.heap.size)) fun Wx1 I=>?_;clear O K
 clear J
 generalize vw1.heap.size=gx1 at *
 refine wp_seq ?_
 refine ks2_ fun K O T Y=>?_
 refine tk2_ ?_
 refine nz Y I O ?_;clear Y T I O K;intro vw2 I
 refine wp_cond_true (by rfl) ?_
 refine kSl fun K O=>?_;go_wp2
 refine kF_ O (I.out) fun Wx3 J=>?_;clear O K
 clear I;have I:=J;clear J
 refine wp_ret ?_
 try simp only [Exit.then,Exit.inBlock]
 exact bR ⟨rfl,I.out.1⟩ (by simp [results,Tryz.results171,go_sem])
theorem qk9 (q:Rat) (m n:Int) (w:World) (HC:Hid (cyc q.den=(m,n,0))) (hs:sz q≤900) :
  CB 172 #[(Value.agg #[.int .u64 (lo q.num.natAbs),.string (bg q.num.natAbs),.bool (q.num<0),.int .u64 (lo (q.den - 1)),.string (bg (q.den - 1))]),.int .i64 m,.int .i64 n] w ((.bool true)):=by
 go_enter Tryz.func172,Tryz.ntmps172
 have I:=lh_ (hp0 w)
 refine kSl fun K O=>?_;go_wp2
 refine kF_ O (al1_ I) fun Wx0 J=>?_;clear O K
 clear I;have I:=J;clear J
 have lx0:=kc0_ I
 refine ks9_ fun K O T Y=>?_
 refine tk ?_
 refine ck Tryz.call67 (fun w' hw=>qf8 q m n (0) _ (HC.out) om) ?_
 iterate 7 refine tk ?_
 refine nzR Y O (fun w2 hg=>(I.out.gr hg).er 0) ?_;clear Y T I lx0 O K;intro Wx1 I
 refine xP1 fun K O T Y=>?_
 iterate 13 refine tk ?_
 refine nz Y I O ?_;clear Y T I O K;intro vw2 I
 refine wp_ret ?_
 try simp only [Exit.then,Exit.inBlock]
 exact bR ⟨rfl,I.out.1⟩ (by simp [results,Tryz.results172,go_sem])
end Go.Proofs.YtobojnodohjiaaaGreatDoor
