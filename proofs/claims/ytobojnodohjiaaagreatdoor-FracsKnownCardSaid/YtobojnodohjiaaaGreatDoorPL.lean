/- A pack of texts: Low, Frac1, Frac2, Frac3, QOf, POf. No condition but those stated. -/
import Derived.Test.YtobojnodohjiaaaGreatDoorIntZ
import Derived.Test.YtobojnodohjiaaaGreatDoorHp
set_option maxRecDepth 100000
set_option maxHeartbeats 16000000
set_option linter.unusedVariables false
set_option linter.unusedSimpArgs false
namespace Go.Proofs.YtobojnodohjiaaaGreatDoor
section
open Go.RowKit
attribute [local go_sem ↓] Go.wp_at_zero Go.wp_at_succ
theorem qf6 (n:Int) (d:Nat) (q:Rat) (hq:Hid (mkRat n d=q)) (hd:0<d) (h1:wl n.natAbs≤274877906944) (h2:wl d≤274877906944) (w:World) :
  CB 189 #[(Value.agg #[.int .u64 (lo n.natAbs),.string (bg n.natAbs),.bool (n<0)]),.agg #[.int .u64 (lo d),.string (bg d)]] w (.agg #[.int .u64 (lo q.num.natAbs),.string (bg q.num.natAbs),.bool (q.num<0),.int .u64 (lo (q.den - 1)),.string (bg (q.den - 1))]):=by
 have hqd:wl q.den≤274877906944:=by rw [← hq.out,← qD4 n d hd];have:=qo3 d (Nat.gcd n.natAbs d);omega
 have hqp:0<q.den:=q.den_pos
 go_enter Tryz.func189,Tryz.ntmps189
 have I:=lh_ (hp0 w)
 refine kSl fun K O=>?_;go_wp2
 refine kF_ O (al3_ I) fun Wx0 J=>?_;clear O K
 clear I;have I:=J;clear J
 generalize w.heap.size+1+1=gx2 at *
 generalize w.heap.size+1=gx1 at *
 obtain ⟨u1,HZ1⟩:=ex_ (Nat.gcd n.natAbs d)
 have su1:wl u1≤274877906944:=by rw [← HZ1.out];have:=qB5 n.natAbs d;omega
 have lx0:=kc0_ I
 have lx1:=kc1_ I
 refine kS fun K O=>?_
 refine wp_region_plan 5 [4] [] (fun _=>5) (fun _=>.cells #[.int .u64 0,.string ⟨#[]⟩] 30) [(true,0),(true,2),(true,1),(true,3)] (by kernel_rfl) (by kernel_rfl) qu_ (fun i hi=>by cases hi) (fun _ _ _ _ _ h=>h) (fun T Y=>?_)
 refine tk2_ ?_
 refine ck Tryz.call100 (fun w' hw=>qd9 n _) ?_
 refine ck Tryz.call111 (fun w' hw=>zgcd n.natAbs d u1 _ HZ1.out om om) ?_
 refine wpPlan_nil (Y.out _ _ ?_)
 intro G vw1 hg hf
 simp only [puts,Act.put,lA,lB,lC,lD,lE,↓reduceIte,Nat.reduceEqDiff]
 have J:=lh_ (I.out.fr hg hf (zs:=[(#[.int .u64 0,.string ⟨#[]⟩],30)]) rfl (by decide) (by decide))
 simp only [zq1_,zq2_,zq3_,zq4_,lF,lG] at J
 clear Y T I hg hf lx0 lx1
 generalize G 4=gx4 at *
 have lx4:=kc3_ J;have fx4:=kf3_ J
 have r0:=Gr.refl vw1
 go_wp2
 refine kO O ?_;clear O K
 clear r0 lx4 fx4
 refine fH ((J.out).put2 3 0 rfl) fun Wx1 I=>?_
 clear J
 obtain ⟨u2,HZ2⟩:=ex_ (n.natAbs / u1)
 have su2:wl u2≤274877906944:=by rw [← HZ2.out];have:=qo3 n.natAbs u1;omega
 obtain ⟨u3,HZ3⟩:=ex_ (n.natAbs % u1)
 have su3:wl u3≤274877906944:=by rw [← HZ3.out];have:=qr4 n.natAbs u1;omega
 have lx0:=kc0_ I
 have lx4:=kc3_ I
 refine kS fun K O=>?_
 refine wp_region_plan 10 [8,9] [6,7] (fun i=>if i=8 then 6 else 7) (fun i=>if i=8 then .cells #[.int .u64 0,.string ⟨#[]⟩] 30 else .cells #[.int .u64 0,.string ⟨#[]⟩] 30) [(true,0),(true,2),(true,1),(true,3),(true,4),(true,5),(true,6),(true,7)] (by kernel_rfl) (by kernel_rfl) zb7_ xA8 (fun _ _ _ _ _ h=>h) (fun T Y=>?_)
 refine tk2_ ?_
 refine ck Tryz.call100 (fun w' hw=>qd9 n _) ?_
 refine ck Tryz.call43 (fun w' hw=>zdiv n.natAbs u1 u2 u3 _ HZ2.out HZ3.out (by rw [← HZ1.out];exact Nat.gcd_pos_of_pos_right _ hd) om om) ?_
 iterate 4 refine tk ?_
 refine wpPlan_nil (Y.out _ _ ?_)
 intro G vw2 hg hf
 simp only [puts,Act.put,lA,lB,lC,lD,lE,↓reduceIte,Nat.reduceEqDiff]
 have J:=lh_ (I.out.fr hg hf (zs:=[(#[.int .u64 0,.string ⟨#[]⟩],30),(#[.int .u64 0,.string ⟨#[]⟩],30)]) rfl (by decide) (by decide))
 simp only [zq1_,zq2_,zq3_,zq4_,lF,lG] at J
 clear Y T I hg hf lx0 lx4
 generalize G 8=gx5 at *
 generalize G 9=gx6 at *
 have lx5:=kc4_ J;have fx5:=kf4_ J
 have lx6:=kc5_ J;have fx6:=kf5_ J
 have r0:=Gr.refl vw2
 obtain ⟨d5_6,d6_5⟩:=J.out.ne 4 5 rfl rfl (by decide)
 go_wp2
 refine kO O ?_;clear O K
 clear r0 lx5 fx5 lx6 fx6 d5_6 d6_5
 refine fH ((((J.out).put2 4 0 rfl).put2 5 0 rfl).er 5) fun Wx2 I=>?_
 clear J
 have HZ4:Hid (d / u1=q.den):=lh_ (by rw [← HZ1.out,← hq.out];exact qD4 n d hd)
 obtain ⟨u5,HZ5⟩:=ex_ (d % u1)
 have su5:wl u5≤274877906944:=by rw [← HZ5.out];have:=qr4 d u1;omega
 have lx1:=kc1_ I
 have lx4:=kc3_ I
 refine ks7_ fun K O T Y=>?_
 refine tk2_ ?_
 refine ck Tryz.call43 (fun w' hw=>zdiv d u1 (q.den) u5 _ HZ4.out HZ5.out (by rw [← HZ1.out];exact Nat.gcd_pos_of_pos_right _ hd) om om) ?_
 iterate 4 refine tk ?_
 refine nlS Y I fun vw3 J=>?_
 clear Y T I lx1 lx4
 go_wp2
 refine kF_ O ((((((J.out).aL (vw3.heap.size)).aL (vw3.heap.size+1)).er 6).er 3).er 1) fun Wx3 I=>?_;clear O K
 clear J
 generalize vw3.heap.size+1=gx8 at *
 generalize vw3.heap.size=gx7 at *
 have HZ6:Hid ((q.den) - (1)=(q).den - 1):=lh_ (rfl)
 have lx7:=kc3_ I
 refine kS fun K O=>?_
 refine wp_region_plan 6 [] [5] (fun _=>0) (fun _=>.cells #[] 0) [(true,0),(true,1),(true,2),(true,3),(true,4),(true,5)] (by kernel_rfl) (by kernel_rfl) (fun i hi=>by cases hi) qr6 (fun _ _ _ _ _ h=>h) (fun T Y=>?_)
 refine tk ?_
 refine ck Tryz.call24 (fun w' hw=>zof 1 _ (by decide)) ?_
 refine ck Tryz.call165 (fun w' hw=>zsub (q.den) (1) (q.den - 1) _ HZ6.out om om om) ?_
 refine tk3_ ?_
 refine wpPlan_nil (Y.out _ _ ?_)
 intro G vw4 hg hf
 simp only [puts,Act.put,lA,lB,lC,lD,lE,↓reduceIte,Nat.reduceEqDiff]
 have J:=lh_ (I.out.gr hg)
 clear Y T I hg hf lx7
 have lx7:=kc3_ J;have fx7:=kf3_ J
 have r0:=Gr.refl vw4
 go_wp2
 refine kO O ?_;clear O K
 clear r0 lx7 fx7
 refine fH ((J.out).put2 3 0 rfl) fun Wx4 I=>?_
 clear J
 have HZ7:Hid ((if decide (sgI n<0) then -((u2:Nat):Int) else ((u2:Nat):Int))=(q).num):=lh_ (by rw [← HZ2.out,← HZ1.out,← hq.out,← qU9 n d hd];simp only [qY0,decide_eq_true_eq])
 have lx0:=kc0_ I
 have lx5:=kc2_ I
 have lx7:=kc3_ I
 refine kS fun K O=>?_
 refine xC6 fun T Y=>?_
 refine tk3_ ?_
 refine ck Tryz.call101 (fun w' hw=>qy1 n _) ?_
 refine tk ?_
 refine ck Tryz.call37 (fun w' hw=>qa7 (decide (sgI n<0)) u2 (q.num) _ HZ7.out) ?_
 refine tk ?_
 refine nlD Y I fun vw5 J=>?_
 clear Y T I lx0 lx5 lx7
 have lx2:=kc1_ J;have fx2:=kf1_ J
 have r0:=Gr.refl vw5
 go_wp2
 refine kO O ?_;clear O K
 clear r0 lx2 fx2
 refine fH (((((((J.out).put2 1 0 rfl).put2 1 2 rfl).put 1 4 _ rfl).er 3).er 2).er 0) fun Wx5 I=>?_
 clear J
 refine wp_ret ?_
 try simp only [Exit.then,Exit.inBlock]
 have lx2:=kc0_ I
 have r0:=Gr.refl Wx5
 exact bR ⟨rfl,I.out.1⟩ (by simp [results,Tryz.results189,go_sem,lx2 _ r0])
end
section
open Go.RowKit
attribute [local go_sem ↓] Go.wp_at_zero Go.wp_at_succ
attribute [local go_sem ↓] eq_nat eq_nat_zero
theorem qd3 (q:Rat) (hs_q:sz q≤274877906944) (w:World) :
  CB 114 #[(Value.agg #[.int .u64 (lo q.num.natAbs),.string (bg q.num.natAbs),.bool (q.num<0),.int .u64 (lo (q.den - 1)),.string (bg (q.den - 1))])] w (.agg #[.int .u64 (lo (q.den)),.string (bg (q.den))]):=by
 have hn_q:=Nat.le_trans (sz_num q) hs_q
 have hd_q:=Nat.le_trans (sz_den q) hs_q
 have he_q:=Nat.le_trans (qb6 (Nat.sub_le q.den 1)) hd_q
 have hp_q:0<q.den:=q.den_pos
 go_enter Tryz.func114,Tryz.ntmps114
 have I:=lh_ (hp0 w)
 refine kSl fun K O=>?_;go_wp2
 refine kF_ O (al2_ I) fun Wx0 J=>?_;clear O K
 clear I;have I:=J;clear J
 generalize w.heap.size+1=gx1 at *
 have HZ1:Hid ((q.den - 1)+(1)=(q).den):=lh_ (Nat.sub_add_cancel hp_q)
 have lx0:=kc0_ I
 refine kS fun K O=>?_
 refine xw6 fun T Y=>?_
 refine tk2_ ?_
 refine ck Tryz.call24 (fun w' hw=>zof 1 _ (by decide)) ?_
 refine ck Tryz.call109 (fun w' hw=>zadd (q.den - 1) (1) (q.den) _ HZ1.out om om) ?_
 refine nlD Y I fun vw1 J=>?_
 clear Y T I lx0
 have lx1:=kc1_ J;have fx1:=kf1_ J
 have r0:=Gr.refl vw1
 go_wp2
 refine kO O ?_;clear O K
 clear r0 lx1 fx1
 refine fH (((J.out).put2 1 0 rfl).er 0) fun Wx1 I=>?_
 clear J
 refine wp_ret ?_
 try simp only [Exit.then,Exit.inBlock]
 have lx1:=kc0_ I
 have r0:=Gr.refl Wx1
 exact bR ⟨rfl,I.out.1⟩ (by simp [results,Tryz.results114,go_sem,lx1 _ r0])
theorem qe3 (q:Rat) (z:Int) (w:World) (hz:((q.den:Nat):Int)=z) (hs_q:sz q≤274877906944) :
  CB 213 #[(Value.agg #[.int .u64 (lo q.num.natAbs),.string (bg q.num.natAbs),.bool (q.num<0),.int .u64 (lo (q.den - 1)),.string (bg (q.den - 1))])] w (.agg #[.int .u64 (lo z.natAbs),.string (bg z.natAbs),.bool (z<0)]):=by
 have hn_q:=Nat.le_trans (sz_num q) hs_q
 have hd_q:=Nat.le_trans (sz_den q) hs_q
 have he_q:=Nat.le_trans (qb6 (Nat.sub_le q.den 1)) hd_q
 have hp_q:0<q.den:=q.den_pos
 replace hz:=lh_ hz
 go_enter Tryz.func213,Tryz.ntmps213
 have I:=lh_ (hp0 w)
 refine kSl fun K O=>?_;go_wp2
 refine kF_ O (al2_ I) fun Wx0 J=>?_;clear O K
 clear I;have I:=J;clear J
 generalize w.heap.size+1=gx1 at *
 have HZ1:Hid ((if false then -((q.den:Nat):Int) else ((q.den:Nat):Int))=z):=lh_ (hz.out)
 have lx0:=kc0_ I
 refine ks3_ fun K O T Y=>?_
 refine tk ?_
 refine ck Tryz.call114 (fun w' hw=>qd3 q om _) ?_
 refine ck Tryz.call37 (fun w' hw=>qa7 false (q.den) z _ HZ1.out) ?_
 refine nlS Y I fun vw1 J=>?_
 clear Y T I lx0
 have lx1:=kc1_ J;have fx1:=kf1_ J
 have r0:=Gr.refl vw1
 go_wp2
 refine kO O ?_;clear O K
 clear r0 lx1 fx1
 refine fH ((((J.out).put2 1 0 rfl).put 1 2 _ rfl).er 0) fun Wx1 I=>?_
 clear J
 refine wp_ret ?_
 try simp only [Exit.then,Exit.inBlock]
 have lx1:=kc0_ I
 have r0:=Gr.refl Wx1
 exact bR ⟨rfl,I.out.1⟩ (by simp [results,Tryz.results213,go_sem,lx1 _ r0])
theorem qL7 (n:Int) (w:World) :
  CB 212 #[(Value.agg #[.int .u64 (lo n.natAbs),.string (bg n.natAbs),.bool (n<0)])] w (.agg #[.int .u64 (lo n.natAbs),.string (bg n.natAbs),.bool (n<0),.int .u64 0,.string ⟨#[]⟩]):=by
 go_enter Tryz.func212,Tryz.ntmps212
 have I:=lh_ (hp0 w)
 refine kSl fun K O=>?_;go_wp2
 refine kF_ O (al2_ I) fun Wx0 J=>?_;clear O K
 clear I;have I:=J;clear J
 generalize w.heap.size+1=gx1 at *
 have lx0:=kc0_ I
 refine ks2_ fun K O T Y=>?_
 refine tk2_ ?_
 refine nlS Y I fun vw1 J=>?_
 clear Y T I lx0
 have lx1:=kc1_ J;have fx1:=kf1_ J
 have r0:=Gr.refl vw1
 go_wp2
 refine kO O ?_;clear O K
 clear r0 lx1 fx1
 refine fH (((((J.out).put2 1 0 rfl).put2 1 2 rfl).put 1 4 _ rfl).er 0) fun Wx1 I=>?_
 clear J
 refine wp_ret ?_
 try simp only [Exit.then,Exit.inBlock]
 have lx1:=kc0_ I
 have r0:=Gr.refl Wx1
 exact bodyPost_ret (v:=.agg #[.int .u64 (lo n.natAbs),.string (bg n.natAbs),.bool (n<0),.int .u64 0,.string ⟨#[]⟩]) (by simp [results,Tryz.results212,go_sem,lx1 _ r0]) rfl ⟨rfl,I.out.1⟩
theorem qh0 (n:Int) (q:Rat) (w:World) (hq:(n:Rat)=q) :
  CB 212 #[(Value.agg #[.int .u64 (lo n.natAbs),.string (bg n.natAbs),.bool (n<0)])] w (Value.agg #[.int .u64 (lo q.num.natAbs),.string (bg q.num.natAbs),.bool (q.num<0),.int .u64 (lo (q.den - 1)),.string (bg (q.den - 1))]):=by
 subst hq
 exact qL7 n w
theorem qz4 (q:Rat) (w:World) :
  CB 146 #[(Value.agg #[.int .u64 (lo q.num.natAbs),.string (bg q.num.natAbs),.bool (q.num<0),.int .u64 (lo (q.den - 1)),.string (bg (q.den - 1))])] w (.bool (decide (q.den - 1=0))):=by
 go_enter Tryz.func146,Tryz.ntmps146
 have I:=lh_ (hp0 w)
 refine kSl fun K O=>?_;go_wp2
 refine kF_ O (al1_ I) fun Wx0 J=>?_;clear O K
 clear I;have I:=J;clear J
 have lx0:=kc0_ I
 refine ks5_ fun K O T Y=>?_
 iterate 5 refine tk ?_
 refine nzR Y O (fun w2 hg=>(I.out.gr hg).er 0) ?_;clear Y T I lx0 O K;intro Wx1 I
 refine wp_ret ?_
 try simp only [Exit.then,Exit.inBlock]
 exact bR ⟨rfl,I.out.1⟩ (by simp [results,Tryz.results146,go_sem])
theorem qa4 (q:Rat) (b:Bool) (w:World) (hb:decide (q.den=1)=b) :
  CB 146 #[(Value.agg #[.int .u64 (lo q.num.natAbs),.string (bg q.num.natAbs),.bool (q.num<0),.int .u64 (lo (q.den - 1)),.string (bg (q.den - 1))])] w (.bool b):=by
 have e:decide (q.den - 1=0)=b:=by
  rw [← hb]
  have:=q.den_pos
  exact decide_eq_decide.2 om
 rw [← e]
 exact qz4 q w
theorem fsign_any (q:Rat) (t:Int) (w:World) (ht:sgQ q=t) :
  CB 139 #[(Value.agg #[.int .u64 (lo q.num.natAbs),.string (bg q.num.natAbs),.bool (q.num<0),.int .u64 (lo (q.den - 1)),.string (bg (q.den - 1))])] w (.int .i64 t):=by
 replace ht:Hid (sgI q.num=t):=by rw [← ht,qu3];rfl
 go_enter Tryz.func139,Tryz.ntmps139
 have I:=lh_ (hp0 w)
 refine kSl fun K O=>?_;go_wp2
 refine kF_ O (al1_ I) fun Wx0 J=>?_;clear O K
 clear I;have I:=J;clear J
 have lx0:=kc0_ I
 refine qb2 fun K O T Y=>?_
 refine tk2_ ?_
 refine ck Tryz.call101 (fun w' hw=>xa_ (q.num) t _ (ht.out)) ?_
 refine tk ?_
 refine nzR Y O (fun w2 hg=>(I.out.gr hg).er 0) ?_;clear Y T I lx0 O K;intro Wx1 I
 refine wp_ret ?_
 try simp only [Exit.then,Exit.inBlock]
 exact bR ⟨rfl,I.out.1⟩ (by simp [results,Tryz.results139,go_sem])
theorem xd2 (q r:Rat) (hr:Hid (-q=r)) (w:World) :
  CB 45 #[(Value.agg #[.int .u64 (lo q.num.natAbs),.string (bg q.num.natAbs),.bool (q.num<0),.int .u64 (lo (q.den - 1)),.string (bg (q.den - 1))])] w (.agg #[.int .u64 (lo r.num.natAbs),.string (bg r.num.natAbs),.bool (r.num<0),.int .u64 (lo (q.den - 1)),.string (bg (q.den - 1))]):=by
 go_enter Tryz.func45,Tryz.ntmps45
 have I:=lh_ (hp0 w)
 refine kSl fun K O=>?_;go_wp2
 refine kF_ O (al2_ I) fun Wx0 J=>?_;clear O K
 clear I;have I:=J;clear J
 generalize w.heap.size+1=gx1 at *
 have HZ1:Hid (-(q.num)=(r).num):=lh_ (by rw [← hr.out];rfl)
 have lx0:=kc0_ I
 refine kS fun K O=>?_
 refine xC7 fun T Y=>?_
 iterate 4 refine tk ?_
 refine ck Tryz.call44 (fun w' hw=>xB2 (q.num) (r.num) _ HZ1.out) ?_
 refine tk ?_
 refine nlD Y I fun vw1 J=>?_
 clear Y T I lx0
 have lx1:=kc1_ J;have fx1:=kf1_ J
 have r0:=Gr.refl vw1
 go_wp2
 refine kO O ?_;clear O K
 clear r0 lx1 fx1
 refine fH (((((J.out).put2 1 0 rfl).put2 1 2 rfl).put 1 4 _ rfl).er 0) fun Wx1 I=>?_
 clear J
 refine wp_ret ?_
 try simp only [Exit.then,Exit.inBlock]
 have lx1:=kc0_ I
 have r0:=Gr.refl Wx1
 exact bR ⟨rfl,I.out.1⟩ (by simp [results,Tryz.results45,go_sem,lx1 _ r0])
theorem qk2 (q r:Rat) (w:World) (hr:-q=r) :
  CB 45 #[(Value.agg #[.int .u64 (lo q.num.natAbs),.string (bg q.num.natAbs),.bool (q.num<0),.int .u64 (lo (q.den - 1)),.string (bg (q.den - 1))])] w (Value.agg #[.int .u64 (lo r.num.natAbs),.string (bg r.num.natAbs),.bool (r.num<0),.int .u64 (lo (r.den - 1)),.string (bg (r.den - 1))]):=by
 have e:q.den=r.den:=by rw [← hr];rfl
 refine (xd2 q r (lh_ hr) w).mono ?_
 rintro _ w' ⟨rfl,hb⟩
 exact ⟨by rw [e],hb⟩
end
section
open Go.RowKit
attribute [local go_sem ↓] Go.wp_at_zero Go.wp_at_succ
attribute [local go_sem ↓] eq_nat eq_nat_zero
theorem qt6 (n:Int) (w:World) (h1:-9223372036854775808≤n) (h2:n≤9223372036854775807) :
  CB 23 #[.int .i64 n] w (Value.agg #[.int .u64 (lo n.natAbs),.string (bg n.natAbs),.bool (n<0)]):=by
 obtain ⟨W0,HW⟩:=ex_ ((w.alloc (.cells #[.int .u64 0,.string ⟨#[]⟩,.bool false] 34)))
 have HS:=lh_ (show w.heap.size+1=W0.heap.size by rw [← HW.out];simp)
 have z0:w.heap.size<W0.heap.size:=by rw [← HS.out];omega
 have c0_0:W0.cell? ⟨w.heap.size,0,none⟩=some (.int .u64 0):=by rw [← HW.out];simp [go_sem]
 have c0_1:W0.cell? ⟨w.heap.size,1,none⟩=some (.string ⟨#[]⟩):=by rw [← HW.out];simp [go_sem]
 have c0_2:W0.cell? ⟨w.heap.size,2,none⟩=some (.bool false):=by rw [← HW.out];simp [go_sem]
 have f_0:W0.frozen? ⟨w.heap.size,0,none⟩=false:=by rw [← HW.out];simp [go_sem]
 have f_1:W0.frozen? ⟨w.heap.size,1,none⟩=false:=by rw [← HW.out];simp [go_sem]
 have f_2:W0.frozen? ⟨w.heap.size,2,none⟩=false:=by rw [← HW.out];simp [go_sem]
 have hbw:Below w.heap.size w W0:=by rw [← HW.out];exact (Below.refl _ _).alloc (Nat.le_refl _) _
 have HR:Hid (∀ w1:World,Below W0.heap.size W0 w1→w1.cell? ⟨w.heap.size,0,none⟩=some (.int .u64 0)∧w1.cell? ⟨w.heap.size,1,none⟩=some (.string ⟨#[]⟩)∧w1.cell? ⟨w.heap.size,2,none⟩=some (.bool false)∧w1.frozen? ⟨w.heap.size,0,none⟩=false∧w1.frozen? ⟨w.heap.size,1,none⟩=false∧w1.frozen? ⟨w.heap.size,2,none⟩=false∧Below w.heap.size w w1):=fun w1 hb=>⟨(held W0 w1 hb _ _ z0).trans c0_0,(held W0 w1 hb _ _ z0).trans c0_1,(held W0 w1 hb _ _ z0).trans c0_2,(qb_ W0 w1 hb _ _ z0).trans f_0,(qb_ W0 w1 hb _ _ z0).trans f_1,(qb_ W0 w1 hb _ _ z0).trans f_2,grow hbw hb⟩
 have HBW:=lh_ hbw
 clear hbw
 by_cases hn:n<0
 ·have hd:decide (n<0)=true:=decide_eq_true hn
  obtain ⟨m,HM⟩:∃ m:Nat,Hid (n = -(m:Int)):=⟨n.natAbs,lh_ om⟩
  have hm:m<18446744073709551616:=by have:=HM.out;omega
  have e0:IntKind.u64.wrap (-IntKind.u64.wrap n)=(m:Int):=by rw [IntKind.wrap_u64,IntKind.wrap_u64,HM.out];have:=HM.out;omega
  have HZ:(if true then -((m:Nat):Int) else ((m:Nat):Int))=n:=by rw [HM.out];rfl
  have H3:=lh_ HZ
  clear HZ
  clear hn
  go_enter Tryz.func23,Tryz.ntmps23
  go_wp2_with fail
  clear hd
  rw [HW.out]
  refine (zof m W0 hm).mono ?_
  rintro e w1 ⟨rfl,hb1⟩
  clear c0_0 c0_1 c0_2 f_0 f_1 f_2 HBW;obtain ⟨c0_0,c0_1,c0_2,f_0,f_1,f_2,hbw⟩:=HR.out w1 hb1;have HBW:=lh_ hbw;clear hbw
  have HB1:=lh_ hb1
  clear hb1
  go_wp2_with fail
  refine (qa7 true m n w1 H3.out).mono ?_
  rintro e w2 ⟨rfl,hb2⟩
  clear c0_0 c0_1 c0_2 f_0 f_1 f_2 HBW;obtain ⟨c0_0,c0_1,c0_2,f_0,f_1,f_2,hbw⟩:=HR.out w2 (grow HB1.out hb2);have HBW:=lh_ hbw;clear hbw
  clear hb2
  go_wp2_with fail
  exact bodyPost_ret (v:=(Value.agg #[.int .u64 (lo n.natAbs),.string (bg n.natAbs),.bool (n<0)])) (by simp [results,Tryz.results23,go_sem,c0_0,c0_1,c0_2]) rfl ⟨rfl,by first|exact (((HBW.out).setCell qr7 _).setCell qr7 _).setCell qr7 _|exact ((((HBW.out).setCell qr7 _).setCell qr7 _).setCell qr7 _).drew⟩
 have hd:decide (n<0)=false:=decide_eq_false hn
 obtain ⟨m,HM⟩:∃ m:Nat,Hid (n=(m:Int)):=⟨n.natAbs,lh_ om⟩
 have hm:m<18446744073709551616:=by have:=HM.out;omega
 have e0:IntKind.u64.wrap n=(m:Int):=by rw [IntKind.wrap_u64];have:=HM.out;omega
 have H3:Hid ((if false then -((m:Nat):Int) else ((m:Nat):Int))=n):=by show _=n;rw [HM.out];rfl
 clear hn
 go_enter Tryz.func23,Tryz.ntmps23
 go_wp2_with fail
 clear hd
 rw [HW.out]
 refine (zof m W0 hm).mono ?_
 rintro e w1 ⟨rfl,hb1⟩
 clear c0_0 c0_1 c0_2 f_0 f_1 f_2 HBW;obtain ⟨c0_0,c0_1,c0_2,f_0,f_1,f_2,hbw⟩:=HR.out w1 hb1;have HBW:=lh_ hbw;clear hbw
 have HB1:=lh_ hb1
 clear hb1
 go_wp2_with fail
 refine (qa7 false m n w1 H3.out).mono ?_
 rintro e w2 ⟨rfl,hb2⟩
 clear c0_0 c0_1 c0_2 f_0 f_1 f_2 HBW;obtain ⟨c0_0,c0_1,c0_2,f_0,f_1,f_2,hbw⟩:=HR.out w2 (grow HB1.out hb2);have HBW:=lh_ hbw;clear hbw
 clear hb2
 go_wp2_with fail
 exact bodyPost_ret (v:=(Value.agg #[.int .u64 (lo n.natAbs),.string (bg n.natAbs),.bool (n<0)])) (by simp [results,Tryz.results23,go_sem,c0_0,c0_1,c0_2]) rfl ⟨rfl,by first|exact (((HBW.out).setCell qr7 _).setCell qr7 _).setCell qr7 _|exact ((((HBW.out).setCell qr7 _).setCell qr7 _).setCell qr7 _).drew⟩
theorem fint_any (n:Int) (q:Rat) (w:World) (hq:(n:Rat)=q) (h1:-9223372036854775808≤n) (h2:n≤9223372036854775807) :
  CB 147 #[.int .i64 n] w (.agg #[.int .u64 (lo q.num.natAbs),.string (bg q.num.natAbs),.bool (q.num<0),.int .u64 (lo (q.den - 1)),.string (bg (q.den - 1))]):=by
 replace hq:=lh_ hq
 go_enter Tryz.func147,Tryz.ntmps147
 have I:=lh_ (hp0 w)
 refine kSl fun K O=>?_;go_wp2
 refine kF_ O (al1_ I) fun Wx0 J=>?_;clear O K
 clear I;have I:=J;clear J
 have HZ1:Hid (((n:Int):Rat)=q):=lh_ (hq.out)
 refine ks3_ fun K O T Y=>?_
 refine tk ?_
 refine ck Tryz.call23 (fun w' hw=>qt6 n _ om om) ?_
 refine ck Tryz.call212 (fun w' hw=>qh0 n q _ HZ1.out) ?_
 refine nlS Y I fun vw1 J=>?_
 clear Y T I
 have lx0:=kc0_ J;have fx0:=kf0_ J
 have r0:=Gr.refl vw1
 go_wp2
 refine kO O ?_;clear O K
 clear r0 lx0 fx0
 refine fH ((((J.out).put2 0 0 rfl).put2 0 2 rfl).put 0 4 _ rfl) fun Wx1 I=>?_
 clear J
 refine wp_ret ?_
 try simp only [Exit.then,Exit.inBlock]
 have lx0:=kc0_ I
 have r0:=Gr.refl Wx1
 exact bR ⟨rfl,I.out.1⟩ (by simp [results,Tryz.results147,go_sem,lx0 _ r0])
theorem xc5 (a b z:Rat) (hz:a+b=z) (hs_a:sz a≤100000000000) (hs_b:sz b≤100000000000) (h1:decide (a.den=1)=true) (h2:decide (b.den=1)=true) (w:World) :
  CB 130 #[(Value.agg #[.int .u64 (lo a.num.natAbs),.string (bg a.num.natAbs),.bool (a.num<0),.int .u64 (lo (a.den - 1)),.string (bg (a.den - 1))]),(Value.agg #[.int .u64 (lo b.num.natAbs),.string (bg b.num.natAbs),.bool (b.num<0),.int .u64 (lo (b.den - 1)),.string (bg (b.den - 1))])] w (.agg #[.int .u64 (lo z.num.natAbs),.string (bg z.num.natAbs),.bool (z.num<0),.int .u64 (lo (z.den - 1)),.string (bg (z.den - 1))]):=by
 have hn_a:=Nat.le_trans (sz_num a) hs_a
 have hd_a:=Nat.le_trans (sz_den a) hs_a
 have he_a:=Nat.le_trans (qb6 (Nat.sub_le a.den 1)) hd_a
 have hp_a:0<a.den:=a.den_pos
 have hn_b:=Nat.le_trans (sz_num b) hs_b
 have hd_b:=Nat.le_trans (sz_den b) hs_b
 have he_b:=Nat.le_trans (qb6 (Nat.sub_le b.den 1)) hd_b
 have hp_b:0<b.den:=b.den_pos
 replace hz:=lh_ hz
 go_enter Tryz.func130,Tryz.ntmps130
 have I:=lh_ (hp0 w)
 refine kSl fun K O=>?_;go_wp2
 refine kF_ O (al3_ I) fun Wx0 J=>?_;clear O K
 clear I;have I:=J;clear J
 generalize w.heap.size+1+1=gx2 at *
 generalize w.heap.size+1=gx1 at *
 refine wp_seq ?_
 refine wp_block ?_
 have lx0:=kc0_ I
 have lx1:=kc1_ I
 refine ks7_ fun K O T Y=>?_
 refine tk ?_
 refine ck Tryz.call146 (fun w' hw=>qa4 a true _ h1) ?_
 refine tk2_ ?_
 refine ck Tryz.call146 (fun w' hw=>qa4 b true _ h2) ?_
 refine tk2_ ?_
 refine nz Y I O ?_;clear Y T I lx0 lx1 O K;intro vw1 I
 refine wp_cond_true (by rfl) ?_
 obtain ⟨u1,HZ1⟩:=ex_ ((a.num)+(b.num))
 have su1:wl (Int.natAbs u1)≤100000000001:=by rw [← HZ1.out];have:=qm1 (a.num) (b.num);omega
 have HZ2:Hid (((u1:Int):Rat)=z):=lh_ (by rw [← HZ1.out,← hz.out];exact xm1 a b (of_decide_eq_true h1) (of_decide_eq_true h2))
 have lx0:=kc0_ I
 have lx1:=kc1_ I
 refine qa2 fun K O T Y=>?_
 iterate 4 refine tk ?_
 refine ck Tryz.call41 (fun w' hw=>qP5 (a.num) (b.num) u1 _ HZ1.out om om) ?_
 refine ck Tryz.call212 (fun w' hw=>qh0 u1 z _ HZ2.out) ?_
 refine nlS Y I fun vw2 J=>?_
 clear Y T I lx0 lx1
 have lx2:=kc2_ J;have fx2:=kf2_ J
 have r0:=Gr.refl vw2
 go_wp2
 refine kO O ?_;clear O K
 clear r0 lx2 fx2
 refine fH ((((J.out).put2 2 0 rfl).put2 2 2 rfl).put 2 4 _ rfl) fun Wx2 I=>?_
 clear J
 refine wp_ret ?_
 try simp only [Exit.then,Exit.inBlock]
 have lx2:=kc2_ I
 have r0:=Gr.refl Wx2
 exact bR ⟨rfl,I.out.1⟩ xj4
theorem qL1 (a b z:Rat) (hz:a+b=z) (hs_a:sz a≤100000000000) (hs_b:sz b≤100000000000) (h1:decide (a.den=1)=true) (h2:decide (b.den=1)=false) (h3:decide (a.den - 1=b.den - 1)=false) (w:World) :
  CB 130 #[(Value.agg #[.int .u64 (lo a.num.natAbs),.string (bg a.num.natAbs),.bool (a.num<0),.int .u64 (lo (a.den - 1)),.string (bg (a.den - 1))]),(Value.agg #[.int .u64 (lo b.num.natAbs),.string (bg b.num.natAbs),.bool (b.num<0),.int .u64 (lo (b.den - 1)),.string (bg (b.den - 1))])] w (.agg #[.int .u64 (lo z.num.natAbs),.string (bg z.num.natAbs),.bool (z.num<0),.int .u64 (lo (z.den - 1)),.string (bg (z.den - 1))]):=by
 have hn_a:=Nat.le_trans (sz_num a) hs_a
 have hd_a:=Nat.le_trans (sz_den a) hs_a
 have he_a:=Nat.le_trans (qb6 (Nat.sub_le a.den 1)) hd_a
 have hp_a:0<a.den:=a.den_pos
 have hn_b:=Nat.le_trans (sz_num b) hs_b
 have hd_b:=Nat.le_trans (sz_den b) hs_b
 have he_b:=Nat.le_trans (qb6 (Nat.sub_le b.den 1)) hd_b
 have hp_b:0<b.den:=b.den_pos
 replace hz:=lh_ hz
 go_enter Tryz.func130,Tryz.ntmps130
 have I:=lh_ (hp0 w)
 refine kSl fun K O=>?_;go_wp2
 refine kF_ O (al3_ I) fun Wx0 J=>?_;clear O K
 clear I;have I:=J;clear J
 generalize w.heap.size+1+1=gx2 at *
 generalize w.heap.size+1=gx1 at *
 refine wp_seq ?_
 refine wp_block ?_
 have lx0:=kc0_ I
 have lx1:=kc1_ I
 refine ks7_ fun K O T Y=>?_
 refine tk ?_
 refine ck Tryz.call146 (fun w' hw=>qa4 a true _ h1) ?_
 refine tk2_ ?_
 refine ck Tryz.call146 (fun w' hw=>qa4 b false _ h2) ?_
 refine tk2_ ?_
 refine nz Y I O ?_;clear Y T I lx0 lx1 O K;intro vw1 I
 refine wp_cond_false (by rfl) ?_
 have lx0:=kc0_ I
 have lx1:=kc1_ I
 refine qa2 fun K O T Y=>?_
 iterate 6 refine tk ?_
 refine nz Y I O ?_;clear Y T I lx0 lx1 O K;intro vw2 I
 refine wp_cond_false (by rfl) ?_
 refine wp_skip ?_
 show Code.wp _ _ _ _ _
 obtain ⟨u1,HZ1⟩:=ex_ ((b.den:Int))
 have su1:wl (Int.natAbs u1)≤100000000000:=by rw [← HZ1.out];rw [Int.natAbs_natCast];omega
 obtain ⟨u2,HZ2⟩:=ex_ ((a.num)*(u1))
 have su2:wl (Int.natAbs u2)≤200000000000:=by rw [← HZ2.out];have:=qh7 (a.num) u1;omega
 obtain ⟨u3,HZ3⟩:=ex_ ((a.den:Int))
 have su3:wl (Int.natAbs u3)≤100000000000:=by rw [← HZ3.out];rw [Int.natAbs_natCast];omega
 obtain ⟨u4,HZ4⟩:=ex_ ((b.num)*(u3))
 have su4:wl (Int.natAbs u4)≤200000000000:=by rw [← HZ4.out];have:=qh7 (b.num) u3;omega
 obtain ⟨u5,HZ5⟩:=ex_ (u2+(u4))
 have su5:wl (Int.natAbs u5)≤200000000001:=by rw [← HZ5.out];have:=qm1 u2 u4;omega
 obtain ⟨u6,HZ6⟩:=ex_ ((a.den)*(b.den))
 have su6:wl u6≤200000000000:=by rw [← HZ6.out];have:=qi5 (a.den) (b.den);omega
 have HZ7:Hid (mkRat u5 u6=z):=lh_ xA9
 have lx0:=kc0_ I
 have lx1:=kc1_ I
 refine kS fun K O=>?_
 refine xw7 fun T Y=>?_
 iterate 8 refine tk ?_
 refine ck Tryz.call213 (fun w' hw=>qe3 b u1 _ HZ1.out om) ?_
 refine ck Tryz.call39 (fun w' hw=>qv0 (a.num) u1 u2 _ HZ2.out om om) ?_
 refine ck Tryz.call213 (fun w' hw=>qe3 a u3 _ HZ3.out om) ?_
 refine ck Tryz.call39 (fun w' hw=>qv0 (b.num) u3 u4 _ HZ4.out om om) ?_
 refine ck Tryz.call41 (fun w' hw=>qP5 u2 u4 u5 _ HZ5.out om om) ?_
 refine ck Tryz.call114 (fun w' hw=>qd3 a om _) ?_
 refine ck Tryz.call114 (fun w' hw=>qd3 b om _) ?_
 refine ck Tryz.call110 (fun w' hw=>zmul (a.den) (b.den) u6 _ HZ6.out om om) ?_
 refine ck Tryz.call189 (fun w' hw=>qf6 u5 u6 z HZ7 (by rw [← HZ6.out];exact Nat.mul_pos hp_a hp_b) om om _) ?_
 refine nlD Y I fun vw3 J=>?_
 clear Y T I lx0 lx1
 have lx2:=kc2_ J;have fx2:=kf2_ J
 have r0:=Gr.refl vw3
 go_wp2
 refine kO O ?_;clear O K
 clear r0 lx2 fx2
 refine fH ((((((J.out).put2 2 0 rfl).put2 2 2 rfl).put 2 4 _ rfl).er 1).er 0) fun Wx5 I=>?_
 clear J
 refine wp_ret ?_
 try simp only [Exit.then,Exit.inBlock]
 have lx2:=kc0_ I
 have r0:=Gr.refl Wx5
 exact bR ⟨rfl,I.out.1⟩ xj4
theorem qR8 (a b z:Rat) (hz:a+b=z) (hs_a:sz a≤100000000000) (hs_b:sz b≤100000000000) (h1:decide (a.den=1)=false) (h3:decide (a.den - 1=b.den - 1)=true) (w:World) :
  CB 130 #[(Value.agg #[.int .u64 (lo a.num.natAbs),.string (bg a.num.natAbs),.bool (a.num<0),.int .u64 (lo (a.den - 1)),.string (bg (a.den - 1))]),(Value.agg #[.int .u64 (lo b.num.natAbs),.string (bg b.num.natAbs),.bool (b.num<0),.int .u64 (lo (b.den - 1)),.string (bg (b.den - 1))])] w (.agg #[.int .u64 (lo z.num.natAbs),.string (bg z.num.natAbs),.bool (z.num<0),.int .u64 (lo (z.den - 1)),.string (bg (z.den - 1))]):=by
 have hn_a:=Nat.le_trans (sz_num a) hs_a
 have hd_a:=Nat.le_trans (sz_den a) hs_a
 have he_a:=Nat.le_trans (qb6 (Nat.sub_le a.den 1)) hd_a
 have hp_a:0<a.den:=a.den_pos
 have hn_b:=Nat.le_trans (sz_num b) hs_b
 have hd_b:=Nat.le_trans (sz_den b) hs_b
 have he_b:=Nat.le_trans (qb6 (Nat.sub_le b.den 1)) hd_b
 have hp_b:0<b.den:=b.den_pos
 replace hz:=lh_ hz
 go_enter Tryz.func130,Tryz.ntmps130
 have I:=lh_ (hp0 w)
 refine kSl fun K O=>?_;go_wp2
 refine kF_ O (al3_ I) fun Wx0 J=>?_;clear O K
 clear I;have I:=J;clear J
 generalize w.heap.size+1+1=gx2 at *
 generalize w.heap.size+1=gx1 at *
 refine wp_seq ?_
 refine wp_block ?_
 have lx0:=kc0_ I
 have lx1:=kc1_ I
 refine ks7_ fun K O T Y=>?_
 refine tk ?_
 refine ck Tryz.call146 (fun w' hw=>qa4 a false _ h1) ?_
 refine tk ?_
 iterate 2 refine sk ?_
 refine tk2_ ?_
 refine nz Y I O ?_;clear Y T I lx0 lx1 O K;intro vw1 I
 refine wp_cond_false (by rfl) ?_
 have lx0:=kc0_ I
 have lx1:=kc1_ I
 refine qa2 fun K O T Y=>?_
 iterate 6 refine tk ?_
 refine nz Y I O ?_;clear Y T I lx0 lx1 O K;intro vw2 I
 refine wp_cond_true (by rfl) ?_
 obtain ⟨u1,HZ1⟩:=ex_ ((a.num)+(b.num))
 have su1:wl (Int.natAbs u1)≤100000000001:=by rw [← HZ1.out];have:=qm1 (a.num) (b.num);omega
 have HZ2:Hid (mkRat u1 (a.den)=z):=lh_ (by rw [← HZ1.out,← hz.out];exact qH0 a b (by have:=of_decide_eq_true h3;omega))
 have lx0:=kc0_ I
 have lx1:=kc1_ I
 refine kS fun K O=>?_
 refine xC8 fun T Y=>?_
 iterate 5 refine tk ?_
 refine ck Tryz.call41 (fun w' hw=>qP5 (a.num) (b.num) u1 _ HZ1.out om om) ?_
 refine ck Tryz.call114 (fun w' hw=>qd3 a om _) ?_
 refine ck Tryz.call189 (fun w' hw=>qf6 u1 (a.den) z HZ2 om om om _) ?_
 refine nlD Y I fun vw3 J=>?_
 clear Y T I lx0 lx1
 have lx2:=kc2_ J;have fx2:=kf2_ J
 have r0:=Gr.refl vw3
 go_wp2
 refine kO O ?_;clear O K
 clear r0 lx2 fx2
 refine fH ((((J.out).put2 2 0 rfl).put2 2 2 rfl).put 2 4 _ rfl) fun Wx4 I=>?_
 clear J
 refine wp_ret ?_
 try simp only [Exit.then,Exit.inBlock]
 have lx2:=kc2_ I
 have r0:=Gr.refl Wx4
 exact bR ⟨rfl,I.out.1⟩ xj4
theorem qL0 (a b z:Rat) (hz:a+b=z) (hs_a:sz a≤100000000000) (hs_b:sz b≤100000000000) (h1:decide (a.den=1)=false) (h3:decide (a.den - 1=b.den - 1)=false) (w:World) :
  CB 130 #[(Value.agg #[.int .u64 (lo a.num.natAbs),.string (bg a.num.natAbs),.bool (a.num<0),.int .u64 (lo (a.den - 1)),.string (bg (a.den - 1))]),(Value.agg #[.int .u64 (lo b.num.natAbs),.string (bg b.num.natAbs),.bool (b.num<0),.int .u64 (lo (b.den - 1)),.string (bg (b.den - 1))])] w (.agg #[.int .u64 (lo z.num.natAbs),.string (bg z.num.natAbs),.bool (z.num<0),.int .u64 (lo (z.den - 1)),.string (bg (z.den - 1))]):=by
 have hn_a:=Nat.le_trans (sz_num a) hs_a
 have hd_a:=Nat.le_trans (sz_den a) hs_a
 have he_a:=Nat.le_trans (qb6 (Nat.sub_le a.den 1)) hd_a
 have hp_a:0<a.den:=a.den_pos
 have hn_b:=Nat.le_trans (sz_num b) hs_b
 have hd_b:=Nat.le_trans (sz_den b) hs_b
 have he_b:=Nat.le_trans (qb6 (Nat.sub_le b.den 1)) hd_b
 have hp_b:0<b.den:=b.den_pos
 replace hz:=lh_ hz
 go_enter Tryz.func130,Tryz.ntmps130
 have I:=lh_ (hp0 w)
 refine kSl fun K O=>?_;go_wp2
 refine kF_ O (al3_ I) fun Wx0 J=>?_;clear O K
 clear I;have I:=J;clear J
 generalize w.heap.size+1+1=gx2 at *
 generalize w.heap.size+1=gx1 at *
 refine wp_seq ?_
 refine wp_block ?_
 have lx0:=kc0_ I
 have lx1:=kc1_ I
 refine ks7_ fun K O T Y=>?_
 refine tk ?_
 refine ck Tryz.call146 (fun w' hw=>qa4 a false _ h1) ?_
 refine tk ?_
 iterate 2 refine sk ?_
 refine tk2_ ?_
 refine nz Y I O ?_;clear Y T I lx0 lx1 O K;intro vw1 I
 refine wp_cond_false (by rfl) ?_
 have lx0:=kc0_ I
 have lx1:=kc1_ I
 refine qa2 fun K O T Y=>?_
 iterate 6 refine tk ?_
 refine nz Y I O ?_;clear Y T I lx0 lx1 O K;intro vw2 I
 refine wp_cond_false (by rfl) ?_
 refine wp_skip ?_
 show Code.wp _ _ _ _ _
 obtain ⟨u1,HZ1⟩:=ex_ ((b.den:Int))
 have su1:wl (Int.natAbs u1)≤100000000000:=by rw [← HZ1.out];rw [Int.natAbs_natCast];omega
 obtain ⟨u2,HZ2⟩:=ex_ ((a.num)*(u1))
 have su2:wl (Int.natAbs u2)≤200000000000:=by rw [← HZ2.out];have:=qh7 (a.num) u1;omega
 obtain ⟨u3,HZ3⟩:=ex_ ((a.den:Int))
 have su3:wl (Int.natAbs u3)≤100000000000:=by rw [← HZ3.out];rw [Int.natAbs_natCast];omega
 obtain ⟨u4,HZ4⟩:=ex_ ((b.num)*(u3))
 have su4:wl (Int.natAbs u4)≤200000000000:=by rw [← HZ4.out];have:=qh7 (b.num) u3;omega
 obtain ⟨u5,HZ5⟩:=ex_ (u2+(u4))
 have su5:wl (Int.natAbs u5)≤200000000001:=by rw [← HZ5.out];have:=qm1 u2 u4;omega
 obtain ⟨u6,HZ6⟩:=ex_ ((a.den)*(b.den))
 have su6:wl u6≤200000000000:=by rw [← HZ6.out];have:=qi5 (a.den) (b.den);omega
 have HZ7:Hid (mkRat u5 u6=z):=lh_ xA9
 have lx0:=kc0_ I
 have lx1:=kc1_ I
 refine kS fun K O=>?_
 refine xw7 fun T Y=>?_
 iterate 8 refine tk ?_
 refine ck Tryz.call213 (fun w' hw=>qe3 b u1 _ HZ1.out om) ?_
 refine ck Tryz.call39 (fun w' hw=>qv0 (a.num) u1 u2 _ HZ2.out om om) ?_
 refine ck Tryz.call213 (fun w' hw=>qe3 a u3 _ HZ3.out om) ?_
 refine ck Tryz.call39 (fun w' hw=>qv0 (b.num) u3 u4 _ HZ4.out om om) ?_
 refine ck Tryz.call41 (fun w' hw=>qP5 u2 u4 u5 _ HZ5.out om om) ?_
 refine ck Tryz.call114 (fun w' hw=>qd3 a om _) ?_
 refine ck Tryz.call114 (fun w' hw=>qd3 b om _) ?_
 refine ck Tryz.call110 (fun w' hw=>zmul (a.den) (b.den) u6 _ HZ6.out om om) ?_
 refine ck Tryz.call189 (fun w' hw=>qf6 u5 u6 z HZ7 (by rw [← HZ6.out];exact Nat.mul_pos hp_a hp_b) om om _) ?_
 refine nlD Y I fun vw3 J=>?_
 clear Y T I lx0 lx1
 have lx2:=kc2_ J;have fx2:=kf2_ J
 have r0:=Gr.refl vw3
 go_wp2
 refine kO O ?_;clear O K
 clear r0 lx2 fx2
 refine fH ((((((J.out).put2 2 0 rfl).put2 2 2 rfl).put 2 4 _ rfl).er 1).er 0) fun Wx5 I=>?_
 clear J
 refine wp_ret ?_
 try simp only [Exit.then,Exit.inBlock]
 have lx2:=kc0_ I
 have r0:=Gr.refl Wx5
 exact bR ⟨rfl,I.out.1⟩ xj4
theorem qa_ (a b z:Rat) (w:World) (hz:a+b=z) (hs_a:sz a≤100000000000) (hs_b:sz b≤100000000000) :
  CB 130 #[(Value.agg #[.int .u64 (lo a.num.natAbs),.string (bg a.num.natAbs),.bool (a.num<0),.int .u64 (lo (a.den - 1)),.string (bg (a.den - 1))]),(Value.agg #[.int .u64 (lo b.num.natAbs),.string (bg b.num.natAbs),.bool (b.num<0),.int .u64 (lo (b.den - 1)),.string (bg (b.den - 1))])] w (Value.agg #[.int .u64 (lo z.num.natAbs),.string (bg z.num.natAbs),.bool (z.num<0),.int .u64 (lo (z.den - 1)),.string (bg (z.den - 1))]):=by
 cases h1:decide (a.den=1)
 ·cases h3:decide (a.den - 1=b.den - 1)
  ·exact qL0 a b z hz hs_a hs_b h1 h3 w
  exact qR8 a b z hz hs_a hs_b h1 h3 w
 cases h2:decide (b.den=1)
 ·refine qL1 a b z hz hs_a hs_b h1 h2 ?_ w
  have:=a.den_pos
  have:=b.den_pos
  have:=of_decide_eq_true h1
  have:=of_decide_eq_false h2
  exact decide_eq_false om
 exact xc5 a b z hz hs_a hs_b h1 h2 w
theorem xd1 (a b z:Rat) (hz:a*b=z) (hs_a:sz a≤100000000000) (hs_b:sz b≤100000000000) (h1:decide (a.den=1)=true) (h2:decide (b.den=1)=true) (w:World) :
  CB 134 #[(Value.agg #[.int .u64 (lo a.num.natAbs),.string (bg a.num.natAbs),.bool (a.num<0),.int .u64 (lo (a.den - 1)),.string (bg (a.den - 1))]),(Value.agg #[.int .u64 (lo b.num.natAbs),.string (bg b.num.natAbs),.bool (b.num<0),.int .u64 (lo (b.den - 1)),.string (bg (b.den - 1))])] w (.agg #[.int .u64 (lo z.num.natAbs),.string (bg z.num.natAbs),.bool (z.num<0),.int .u64 (lo (z.den - 1)),.string (bg (z.den - 1))]):=by
 have hn_a:=Nat.le_trans (sz_num a) hs_a
 have hd_a:=Nat.le_trans (sz_den a) hs_a
 have he_a:=Nat.le_trans (qb6 (Nat.sub_le a.den 1)) hd_a
 have hp_a:0<a.den:=a.den_pos
 have hn_b:=Nat.le_trans (sz_num b) hs_b
 have hd_b:=Nat.le_trans (sz_den b) hs_b
 have he_b:=Nat.le_trans (qb6 (Nat.sub_le b.den 1)) hd_b
 have hp_b:0<b.den:=b.den_pos
 replace hz:=lh_ hz
 go_enter Tryz.func134,Tryz.ntmps134
 have I:=lh_ (hp0 w)
 refine kSl fun K O=>?_;go_wp2
 refine kF_ O (al3_ I) fun Wx0 J=>?_;clear O K
 clear I;have I:=J;clear J
 generalize w.heap.size+1+1=gx2 at *
 generalize w.heap.size+1=gx1 at *
 refine wp_seq ?_
 have lx0:=kc0_ I
 have lx1:=kc1_ I
 refine qa2 fun K O T Y=>?_
 refine tk ?_
 refine ck Tryz.call146 (fun w' hw=>qa4 a true _ h1) ?_
 refine tk2_ ?_
 refine ck Tryz.call146 (fun w' hw=>qa4 b true _ h2) ?_
 refine tk ?_
 refine nz Y I O ?_;clear Y T I lx0 lx1 O K;intro vw1 I
 refine wp_cond_true (by rfl) ?_
 obtain ⟨u1,HZ1⟩:=ex_ ((a.num)*(b.num))
 have su1:wl (Int.natAbs u1)≤200000000000:=by rw [← HZ1.out];have:=qh7 (a.num) (b.num);omega
 have HZ2:Hid (((u1:Int):Rat)=z):=lh_ (by rw [← HZ1.out,← hz.out];exact xo9 a b (of_decide_eq_true h1) (of_decide_eq_true h2))
 have lx0:=kc0_ I
 have lx1:=kc1_ I
 refine qa2 fun K O T Y=>?_
 iterate 4 refine tk ?_
 refine ck Tryz.call39 (fun w' hw=>qv0 (a.num) (b.num) u1 _ HZ1.out om om) ?_
 refine ck Tryz.call212 (fun w' hw=>qh0 u1 z _ HZ2.out) ?_
 refine nlS Y I fun vw2 J=>?_
 clear Y T I lx0 lx1
 have lx2:=kc2_ J;have fx2:=kf2_ J
 have r0:=Gr.refl vw2
 go_wp2
 refine kO O ?_;clear O K
 clear r0 lx2 fx2
 refine fH ((((J.out).put2 2 0 rfl).put2 2 2 rfl).put 2 4 _ rfl) fun Wx2 I=>?_
 clear J
 refine wp_ret ?_
 try simp only [Exit.then,Exit.inBlock]
 have lx2:=kc2_ I
 have r0:=Gr.refl Wx2
 exact bR ⟨rfl,I.out.1⟩ (by simp [results,Tryz.results134,go_sem,lx2 _ r0])
theorem qD0 (a b z:Rat) (hz:a*b=z) (hs_a:sz a≤100000000000) (hs_b:sz b≤100000000000) (h1:decide (a.den=1)=true) (h2:decide (b.den=1)=false) (w:World) :
  CB 134 #[(Value.agg #[.int .u64 (lo a.num.natAbs),.string (bg a.num.natAbs),.bool (a.num<0),.int .u64 (lo (a.den - 1)),.string (bg (a.den - 1))]),(Value.agg #[.int .u64 (lo b.num.natAbs),.string (bg b.num.natAbs),.bool (b.num<0),.int .u64 (lo (b.den - 1)),.string (bg (b.den - 1))])] w (.agg #[.int .u64 (lo z.num.natAbs),.string (bg z.num.natAbs),.bool (z.num<0),.int .u64 (lo (z.den - 1)),.string (bg (z.den - 1))]):=by
 have hn_a:=Nat.le_trans (sz_num a) hs_a
 have hd_a:=Nat.le_trans (sz_den a) hs_a
 have he_a:=Nat.le_trans (qb6 (Nat.sub_le a.den 1)) hd_a
 have hp_a:0<a.den:=a.den_pos
 have hn_b:=Nat.le_trans (sz_num b) hs_b
 have hd_b:=Nat.le_trans (sz_den b) hs_b
 have he_b:=Nat.le_trans (qb6 (Nat.sub_le b.den 1)) hd_b
 have hp_b:0<b.den:=b.den_pos
 replace hz:=lh_ hz
 go_enter Tryz.func134,Tryz.ntmps134
 have I:=lh_ (hp0 w)
 refine kSl fun K O=>?_;go_wp2
 refine kF_ O (al3_ I) fun Wx0 J=>?_;clear O K
 clear I;have I:=J;clear J
 generalize w.heap.size+1+1=gx2 at *
 generalize w.heap.size+1=gx1 at *
 refine wp_seq ?_
 have lx0:=kc0_ I
 have lx1:=kc1_ I
 refine qa2 fun K O T Y=>?_
 refine tk ?_
 refine ck Tryz.call146 (fun w' hw=>qa4 a true _ h1) ?_
 refine tk2_ ?_
 refine ck Tryz.call146 (fun w' hw=>qa4 b false _ h2) ?_
 refine tk ?_
 refine nz Y I O ?_;clear Y T I lx0 lx1 O K;intro vw1 I
 refine wp_cond_false (by rfl) ?_
 refine wp_skip ?_
 show Code.wp _ _ _ _ _
 obtain ⟨u1,HZ1⟩:=ex_ ((a.num)*(b.num))
 have su1:wl (Int.natAbs u1)≤200000000000:=by rw [← HZ1.out];have:=qh7 (a.num) (b.num);omega
 obtain ⟨u2,HZ2⟩:=ex_ ((a.den)*(b.den))
 have su2:wl u2≤200000000000:=by rw [← HZ2.out];have:=qi5 (a.den) (b.den);omega
 have HZ3:Hid (mkRat u1 u2=z):=lh_ (by rw [← HZ1.out,← HZ2.out,← hz.out];exact (Rat.mul_def' a b).symm)
 have lx0:=kc0_ I
 have lx1:=kc1_ I
 refine kS fun K O=>?_
 refine xw8 fun T Y=>?_
 iterate 6 refine tk ?_
 refine ck Tryz.call39 (fun w' hw=>qv0 (a.num) (b.num) u1 _ HZ1.out om om) ?_
 refine ck Tryz.call114 (fun w' hw=>qd3 a om _) ?_
 refine ck Tryz.call114 (fun w' hw=>qd3 b om _) ?_
 refine ck Tryz.call110 (fun w' hw=>zmul (a.den) (b.den) u2 _ HZ2.out om om) ?_
 refine ck Tryz.call189 (fun w' hw=>qf6 u1 u2 z HZ3 (by rw [← HZ2.out];exact Nat.mul_pos hp_a hp_b) om om _) ?_
 refine nlD Y I fun vw2 J=>?_
 clear Y T I lx0 lx1
 have lx2:=kc2_ J;have fx2:=kf2_ J
 have r0:=Gr.refl vw2
 go_wp2
 refine kO O ?_;clear O K
 clear r0 lx2 fx2
 refine fH ((((((J.out).put2 2 0 rfl).put2 2 2 rfl).put 2 4 _ rfl).er 1).er 0) fun Wx3 I=>?_
 clear J
 refine wp_ret ?_
 try simp only [Exit.then,Exit.inBlock]
 have lx2:=kc0_ I
 have r0:=Gr.refl Wx3
 exact bR ⟨rfl,I.out.1⟩ (by simp [results,Tryz.results134,go_sem,lx2 _ r0])
theorem qL5 (a b z:Rat) (hz:a*b=z) (hs_a:sz a≤100000000000) (hs_b:sz b≤100000000000) (h1:decide (a.den=1)=false) (w:World) :
  CB 134 #[(Value.agg #[.int .u64 (lo a.num.natAbs),.string (bg a.num.natAbs),.bool (a.num<0),.int .u64 (lo (a.den - 1)),.string (bg (a.den - 1))]),(Value.agg #[.int .u64 (lo b.num.natAbs),.string (bg b.num.natAbs),.bool (b.num<0),.int .u64 (lo (b.den - 1)),.string (bg (b.den - 1))])] w (.agg #[.int .u64 (lo z.num.natAbs),.string (bg z.num.natAbs),.bool (z.num<0),.int .u64 (lo (z.den - 1)),.string (bg (z.den - 1))]):=by
 have hn_a:=Nat.le_trans (sz_num a) hs_a
 have hd_a:=Nat.le_trans (sz_den a) hs_a
 have he_a:=Nat.le_trans (qb6 (Nat.sub_le a.den 1)) hd_a
 have hp_a:0<a.den:=a.den_pos
 have hn_b:=Nat.le_trans (sz_num b) hs_b
 have hd_b:=Nat.le_trans (sz_den b) hs_b
 have he_b:=Nat.le_trans (qb6 (Nat.sub_le b.den 1)) hd_b
 have hp_b:0<b.den:=b.den_pos
 replace hz:=lh_ hz
 go_enter Tryz.func134,Tryz.ntmps134
 have I:=lh_ (hp0 w)
 refine kSl fun K O=>?_;go_wp2
 refine kF_ O (al3_ I) fun Wx0 J=>?_;clear O K
 clear I;have I:=J;clear J
 generalize w.heap.size+1+1=gx2 at *
 generalize w.heap.size+1=gx1 at *
 refine wp_seq ?_
 have lx0:=kc0_ I
 have lx1:=kc1_ I
 refine qa2 fun K O T Y=>?_
 refine tk ?_
 refine ck Tryz.call146 (fun w' hw=>qa4 a false _ h1) ?_
 refine tk ?_
 iterate 2 refine sk ?_
 refine tk ?_
 refine nz Y I O ?_;clear Y T I lx0 lx1 O K;intro vw1 I
 refine wp_cond_false (by rfl) ?_
 refine wp_skip ?_
 show Code.wp _ _ _ _ _
 obtain ⟨u1,HZ1⟩:=ex_ ((a.num)*(b.num))
 have su1:wl (Int.natAbs u1)≤200000000000:=by rw [← HZ1.out];have:=qh7 (a.num) (b.num);omega
 obtain ⟨u2,HZ2⟩:=ex_ ((a.den)*(b.den))
 have su2:wl u2≤200000000000:=by rw [← HZ2.out];have:=qi5 (a.den) (b.den);omega
 have HZ3:Hid (mkRat u1 u2=z):=lh_ (by rw [← HZ1.out,← HZ2.out,← hz.out];exact (Rat.mul_def' a b).symm)
 have lx0:=kc0_ I
 have lx1:=kc1_ I
 refine kS fun K O=>?_
 refine xw8 fun T Y=>?_
 iterate 6 refine tk ?_
 refine ck Tryz.call39 (fun w' hw=>qv0 (a.num) (b.num) u1 _ HZ1.out om om) ?_
 refine ck Tryz.call114 (fun w' hw=>qd3 a om _) ?_
 refine ck Tryz.call114 (fun w' hw=>qd3 b om _) ?_
 refine ck Tryz.call110 (fun w' hw=>zmul (a.den) (b.den) u2 _ HZ2.out om om) ?_
 refine ck Tryz.call189 (fun w' hw=>qf6 u1 u2 z HZ3 (by rw [← HZ2.out];exact Nat.mul_pos hp_a hp_b) om om _) ?_
 refine nlD Y I fun vw2 J=>?_
 clear Y T I lx0 lx1
 have lx2:=kc2_ J;have fx2:=kf2_ J
 have r0:=Gr.refl vw2
 go_wp2
 refine kO O ?_;clear O K
 clear r0 lx2 fx2
 refine fH ((((((J.out).put2 2 0 rfl).put2 2 2 rfl).put 2 4 _ rfl).er 1).er 0) fun Wx3 I=>?_
 clear J
 refine wp_ret ?_
 try simp only [Exit.then,Exit.inBlock]
 have lx2:=kc0_ I
 have r0:=Gr.refl Wx3
 exact bR ⟨rfl,I.out.1⟩ (by simp [results,Tryz.results134,go_sem,lx2 _ r0])
theorem fmul_any (a b z:Rat) (w:World) (hz:a*b=z) (hs_a:sz a≤100000000000) (hs_b:sz b≤100000000000) :
  CB 134 #[(Value.agg #[.int .u64 (lo a.num.natAbs),.string (bg a.num.natAbs),.bool (a.num<0),.int .u64 (lo (a.den - 1)),.string (bg (a.den - 1))]),(Value.agg #[.int .u64 (lo b.num.natAbs),.string (bg b.num.natAbs),.bool (b.num<0),.int .u64 (lo (b.den - 1)),.string (bg (b.den - 1))])] w (Value.agg #[.int .u64 (lo z.num.natAbs),.string (bg z.num.natAbs),.bool (z.num<0),.int .u64 (lo (z.den - 1)),.string (bg (z.den - 1))]):=by
 cases h1:decide (a.den=1)
 ·exact qL5 a b z hz hs_a hs_b h1 w
 cases h2:decide (b.den=1)
 ·exact qD0 a b z hz hs_a hs_b h1 h2 w
 exact xd1 a b z hz hs_a hs_b h1 h2 w
theorem qg5 (a b z:Rat) (w:World) (hz:a - b=z) (hs_a:sz a≤100000000000) (hs_b:sz b≤100000000000) :
  CB 132 #[(Value.agg #[.int .u64 (lo a.num.natAbs),.string (bg a.num.natAbs),.bool (a.num<0),.int .u64 (lo (a.den - 1)),.string (bg (a.den - 1))]),(Value.agg #[.int .u64 (lo b.num.natAbs),.string (bg b.num.natAbs),.bool (b.num<0),.int .u64 (lo (b.den - 1)),.string (bg (b.den - 1))])] w (.agg #[.int .u64 (lo z.num.natAbs),.string (bg z.num.natAbs),.bool (z.num<0),.int .u64 (lo (z.den - 1)),.string (bg (z.den - 1))]):=by
 replace hz:=lh_ hz
 go_enter Tryz.func132,Tryz.ntmps132
 have I:=lh_ (hp0 w)
 refine kSl fun K O=>?_;go_wp2
 refine kF_ O (al3_ I) fun Wx0 J=>?_;clear O K
 clear I;have I:=J;clear J
 generalize w.heap.size+1+1=gx2 at *
 generalize w.heap.size+1=gx1 at *
 obtain ⟨u1,HZ1⟩:=ex_ (-(b))
 have su1:sz u1≤100000000000:=by rw [← HZ1.out];rw [qn8];omega
 have HZ2:Hid (a+(u1)=z):=lh_ (by rw [← HZ1.out,← hz.out,Rat.sub_eq_add_neg])
 have lx0:=kc0_ I
 have lx1:=kc1_ I
 refine kS fun K O=>?_
 refine xw6 fun T Y=>?_
 refine tk2_ ?_
 refine ck Tryz.call45 (fun w' hw=>qk2 b u1 _ HZ1.out) ?_
 refine ck Tryz.call130 (fun w' hw=>qa_ a u1 z _ HZ2.out om om) ?_
 refine nlD Y I fun vw1 J=>?_
 clear Y T I lx0 lx1
 have lx2:=kc2_ J;have fx2:=kf2_ J
 have r0:=Gr.refl vw1
 go_wp2
 refine kO O ?_;clear O K
 clear r0 lx2 fx2
 refine fH ((((((J.out).put2 2 0 rfl).put2 2 2 rfl).put 2 4 _ rfl).er 1).er 0) fun Wx1 I=>?_
 clear J
 refine wp_ret ?_
 try simp only [Exit.then,Exit.inBlock]
 have lx2:=kc0_ I
 have r0:=Gr.refl Wx1
 exact bR ⟨rfl,I.out.1⟩ (by simp [results,Tryz.results132,go_sem,lx2 _ r0])
end
section
open Go.RowKit
attribute [local go_sem ↓] Go.wp_at_zero Go.wp_at_succ
attribute [local go_sem ↓] eq_nat eq_nat_zero
theorem qR9 (a b:Rat) (t:Int) (ht:sgQ (a - b)=t) (hs_a:sz a≤100000000000) (hs_b:sz b≤100000000000) (h3:decide (a.den - 1=b.den - 1)=true) (w:World) :
  CB 140 #[(Value.agg #[.int .u64 (lo a.num.natAbs),.string (bg a.num.natAbs),.bool (a.num<0),.int .u64 (lo (a.den - 1)),.string (bg (a.den - 1))]),(Value.agg #[.int .u64 (lo b.num.natAbs),.string (bg b.num.natAbs),.bool (b.num<0),.int .u64 (lo (b.den - 1)),.string (bg (b.den - 1))])] w (.int .i64 t):=by
 have hn_a:=Nat.le_trans (sz_num a) hs_a
 have hd_a:=Nat.le_trans (sz_den a) hs_a
 have he_a:=Nat.le_trans (qb6 (Nat.sub_le a.den 1)) hd_a
 have hp_a:0<a.den:=a.den_pos
 have hn_b:=Nat.le_trans (sz_num b) hs_b
 have hd_b:=Nat.le_trans (sz_den b) hs_b
 have he_b:=Nat.le_trans (qb6 (Nat.sub_le b.den 1)) hd_b
 have hp_b:0<b.den:=b.den_pos
 replace ht:=lh_ ht
 go_enter Tryz.func140,Tryz.ntmps140
 have I:=lh_ (hp0 w)
 refine kSl fun K O=>?_;go_wp2
 refine kF_ O (al2_ I) fun Wx0 J=>?_;clear O K
 clear I;have I:=J;clear J
 generalize w.heap.size+1=gx1 at *
 refine wp_seq ?_
 have lx0:=kc0_ I
 have lx1:=kc1_ I
 refine ks5_ fun K O T Y=>?_
 iterate 5 refine tk ?_
 refine nz Y I O ?_;clear Y T I lx0 lx1 O K;intro vw1 I
 refine wp_cond_true (by rfl) ?_
 have lx0:=kc0_ I
 have lx1:=kc1_ I
 refine qa2 fun K O T Y=>?_
 iterate 4 refine tk ?_
 refine ck Tryz.call217 (fun w' hw=>xB1 (a.num) (b.num) t _ (by rw [← ht.out];exact qB1 a b (by have:=of_decide_eq_true h3;omega)) om om) ?_
 refine tk ?_
 refine nz Y I O ?_;clear Y T I lx0 lx1 O K;intro vw2 I
 refine wp_ret ?_
 try simp only [Exit.then,Exit.inBlock]
 exact bR ⟨rfl,I.out.1⟩ (by simp [results,Tryz.results140,go_sem])
theorem qL2 (a b:Rat) (t:Int) (ht:sgQ (a - b)=t) (hs_a:sz a≤100000000000) (hs_b:sz b≤100000000000) (h3:decide (a.den - 1=b.den - 1)=false) (w:World) :
  CB 140 #[(Value.agg #[.int .u64 (lo a.num.natAbs),.string (bg a.num.natAbs),.bool (a.num<0),.int .u64 (lo (a.den - 1)),.string (bg (a.den - 1))]),(Value.agg #[.int .u64 (lo b.num.natAbs),.string (bg b.num.natAbs),.bool (b.num<0),.int .u64 (lo (b.den - 1)),.string (bg (b.den - 1))])] w (.int .i64 t):=by
 have hn_a:=Nat.le_trans (sz_num a) hs_a
 have hd_a:=Nat.le_trans (sz_den a) hs_a
 have he_a:=Nat.le_trans (qb6 (Nat.sub_le a.den 1)) hd_a
 have hp_a:0<a.den:=a.den_pos
 have hn_b:=Nat.le_trans (sz_num b) hs_b
 have hd_b:=Nat.le_trans (sz_den b) hs_b
 have he_b:=Nat.le_trans (qb6 (Nat.sub_le b.den 1)) hd_b
 have hp_b:0<b.den:=b.den_pos
 replace ht:=lh_ ht
 go_enter Tryz.func140,Tryz.ntmps140
 have I:=lh_ (hp0 w)
 refine kSl fun K O=>?_;go_wp2
 refine kF_ O (al2_ I) fun Wx0 J=>?_;clear O K
 clear I;have I:=J;clear J
 generalize w.heap.size+1=gx1 at *
 refine wp_seq ?_
 have lx0:=kc0_ I
 have lx1:=kc1_ I
 refine ks5_ fun K O T Y=>?_
 iterate 5 refine tk ?_
 refine nz Y I O ?_;clear Y T I lx0 lx1 O K;intro vw1 I
 refine wp_cond_false (by rfl) ?_
 refine wp_skip ?_
 show Code.wp _ _ _ _ _
 obtain ⟨u1,HZ1⟩:=ex_ ((b.den:Int))
 have su1:wl (Int.natAbs u1)≤100000000000:=by rw [← HZ1.out];rw [Int.natAbs_natCast];omega
 obtain ⟨u2,HZ2⟩:=ex_ ((a.num)*(u1))
 have su2:wl (Int.natAbs u2)≤200000000000:=by rw [← HZ2.out];have:=qh7 (a.num) u1;omega
 obtain ⟨u3,HZ3⟩:=ex_ ((a.den:Int))
 have su3:wl (Int.natAbs u3)≤100000000000:=by rw [← HZ3.out];rw [Int.natAbs_natCast];omega
 obtain ⟨u4,HZ4⟩:=ex_ ((b.num)*(u3))
 have su4:wl (Int.natAbs u4)≤200000000000:=by rw [← HZ4.out];have:=qh7 (b.num) u3;omega
 have lx0:=kc0_ I
 have lx1:=kc1_ I
 refine kS fun K O=>?_
 refine xC9 fun T Y=>?_
 iterate 6 refine tk ?_
 refine ck Tryz.call213 (fun w' hw=>qe3 b u1 _ HZ1.out om) ?_
 refine ck Tryz.call39 (fun w' hw=>qv0 (a.num) u1 u2 _ HZ2.out om om) ?_
 refine ck Tryz.call213 (fun w' hw=>qe3 a u3 _ HZ3.out om) ?_
 refine ck Tryz.call39 (fun w' hw=>qv0 (b.num) u3 u4 _ HZ4.out om om) ?_
 refine ck Tryz.call217 (fun w' hw=>xB1 u2 u4 t _ (by rw [← ht.out,← HZ2.out,← HZ4.out,← HZ1.out,← HZ3.out];exact qY2 a b) om om) ?_
 refine nlD Y I fun vw2 J=>?_
 clear Y T I lx0 lx1
 go_wp2
 refine kF_ O (((J.out).er 1).er 0) fun Wx3 I=>?_;clear O K
 clear J
 refine wp_ret ?_
 try simp only [Exit.then,Exit.inBlock]
 exact bR ⟨rfl,I.out.1⟩ (by simp [results,Tryz.results140,go_sem])
theorem qa3 (a b:Rat) (t:Int) (w:World) (ht:sgQ (a - b)=t) (hs_a:sz a≤100000000000) (hs_b:sz b≤100000000000) :
  CB 140 #[(Value.agg #[.int .u64 (lo a.num.natAbs),.string (bg a.num.natAbs),.bool (a.num<0),.int .u64 (lo (a.den - 1)),.string (bg (a.den - 1))]),(Value.agg #[.int .u64 (lo b.num.natAbs),.string (bg b.num.natAbs),.bool (b.num<0),.int .u64 (lo (b.den - 1)),.string (bg (b.den - 1))])] w (.int .i64 t):=by
 cases h3:decide (a.den - 1=b.den - 1)
 ·exact qL2 a b t ht hs_a hs_b h3 w
 exact qR9 a b t ht hs_a hs_b h3 w
theorem xc6 (a b z r:Rat) (t:Int) (hz:Hid (a*r=z)) (hr:Hid (b⁻¹=r)) (ht:Hid (sgQ b=t)) (h0:(t == 0)=false) (hb0:0<Int.natAbs b.num) (hs_r:sz r≤100000000000) (hs_a:sz a≤100000000000) (hs_b:sz b≤100000000000) (w:World) :
  CB 79 #[(Value.agg #[.int .u64 (lo a.num.natAbs),.string (bg a.num.natAbs),.bool (a.num<0),.int .u64 (lo (a.den - 1)),.string (bg (a.den - 1))]),(Value.agg #[.int .u64 (lo b.num.natAbs),.string (bg b.num.natAbs),.bool (b.num<0),.int .u64 (lo (b.den - 1)),.string (bg (b.den - 1))])] w (.tuple #[(.agg #[.int .u64 (lo z.num.natAbs),.string (bg z.num.natAbs),.bool (z.num<0),.int .u64 (lo (z.den - 1)),.string (bg (z.den - 1))]),.int .i64 0]):=by
 have hn_a:=Nat.le_trans (sz_num a) hs_a
 have hd_a:=Nat.le_trans (sz_den a) hs_a
 have he_a:=Nat.le_trans (qb6 (Nat.sub_le a.den 1)) hd_a
 have hp_a:0<a.den:=a.den_pos
 have hn_b:=Nat.le_trans (sz_num b) hs_b
 have hd_b:=Nat.le_trans (sz_den b) hs_b
 have he_b:=Nat.le_trans (qb6 (Nat.sub_le b.den 1)) hd_b
 have hp_b:0<b.den:=b.den_pos
 go_enter Tryz.func79,Tryz.ntmps79
 have I:=lh_ (hp0 w)
 refine kSl fun K O=>?_;go_wp2
 refine kF_ O (al3_ I) fun Wx0 J=>?_;clear O K
 clear I;have I:=J;clear J
 generalize w.heap.size+1+1=gx2 at *
 generalize w.heap.size+1=gx1 at *
 refine wp_seq ?_
 have lx1:=kc1_ I
 refine ks3_ fun K O T Y=>?_
 refine tk ?_
 refine ck Tryz.call139 (fun w' hw=>fsign_any b t _ (ht.out)) ?_
 refine tk ?_
 refine nz Y I O ?_;clear Y T I lx1 O K;intro vw1 I
 refine wp_cond_false (by rfl) ?_
 refine wp_skip ?_
 show Code.wp _ _ _ _ _
 obtain ⟨u1,HZ1⟩:=ex_ ((if decide (t<0) then -((b.den:Nat):Int) else ((b.den:Nat):Int)))
 have su1:wl (Int.natAbs u1)≤100000000000:=by rw [← HZ1.out];split <;> simp <;> omega
 have HZ2:Hid (mkRat u1 b.num.natAbs=r):=lh_ (by rw [← HZ1.out,← ht.out,← hr.out];exact xv4 b om)
 have lx1:=kc1_ I
 refine kS fun K O=>?_
 refine wp_region_plan 11 [10] [] (fun _=>6) (fun _=>.cells #[.int .u64 0,.string ⟨#[]⟩,.bool false,.int .u64 0,.string ⟨#[]⟩] 36) [(true,0),(true,3),(true,6),(true,7),(true,1),(true,2),(true,4),(true,5),(true,8),(true,9)] (by kernel_rfl) (by kernel_rfl) qu_ (fun i hi=>by cases hi) (fun _ _ _ _ _ h=>h) (fun T Y=>?_)
 iterate 4 refine tk ?_
 refine ck Tryz.call139 (fun w' hw=>fsign_any b t _ (ht.out)) ?_
 refine tk ?_
 refine ck Tryz.call114 (fun w' hw=>qd3 b om _) ?_
 refine ck Tryz.call37 (fun w' hw=>qa7 (decide (t<0)) (b.den) u1 _ HZ1.out) ?_
 refine ck Tryz.call100 (fun w' hw=>qd9 (b.num) _) ?_
 refine ck Tryz.call189 (fun w' hw=>qf6 u1 b.num.natAbs r HZ2 om om om _) ?_
 refine wpPlan_nil (Y.out _ _ ?_)
 intro G vw2 hg hf
 simp only [puts,Act.put,lA,lB,lC,lD,lE,↓reduceIte,Nat.reduceEqDiff]
 have J:=lh_ (I.out.fr hg hf (zs:=[(#[.int .u64 0,.string ⟨#[]⟩,.bool false,.int .u64 0,.string ⟨#[]⟩],36)]) rfl (by decide) (by decide))
 simp only [zq1_,zq2_,zq3_,zq4_,lF,lG] at J
 clear Y T I hg hf lx1
 generalize G 10=gx4 at *
 have lx4:=kc3_ J;have fx4:=kf3_ J
 have r0:=Gr.refl vw2
 go_wp2
 refine kO O ?_;clear O K
 clear r0 lx4 fx4
 refine fH (((((J.out).put2 3 0 rfl).put2 3 2 rfl).put 3 4 _ rfl).er 1) fun Wx3 I=>?_
 clear J
 have HZ3:Hid (a*(r)=z):=lh_ (hz.out)
 have lx0:=kc0_ I
 have lx4:=kc2_ I
 refine ks3_ fun K O T Y=>?_
 refine tk2_ ?_
 refine ck Tryz.call134 (fun w' hw=>fmul_any a r z _ HZ3.out om om) ?_
 refine nlS Y I fun vw3 J=>?_
 clear Y T I lx0 lx4
 have lx2:=kc1_ J;have fx2:=kf1_ J
 have r0:=Gr.refl vw3
 go_wp2
 refine kO O ?_;clear O K
 clear r0 lx2 fx2
 refine fH ((((((J.out).put2 1 0 rfl).put2 1 2 rfl).put 1 4 _ rfl).er 2).er 0) fun Wx4 I=>?_
 clear J
 refine wp_ret ?_
 try simp only [Exit.then,Exit.inBlock]
 have lx2:=kc0_ I
 have r0:=Gr.refl Wx4
 exact bR ⟨rfl,I.out.1⟩ (by simp [results,Tryz.results79,go_sem,lx2 _ r0])
theorem qS1 (a b:Rat) (t:Int) (ht:Hid (sgQ b=t)) (h0:(t == 0)=true) (w:World) :
  CB 79 #[(Value.agg #[.int .u64 (lo a.num.natAbs),.string (bg a.num.natAbs),.bool (a.num<0),.int .u64 (lo (a.den - 1)),.string (bg (a.den - 1))]),(Value.agg #[.int .u64 (lo b.num.natAbs),.string (bg b.num.natAbs),.bool (b.num<0),.int .u64 (lo (b.den - 1)),.string (bg (b.den - 1))])] w (.tuple #[(.agg #[.int .u64 0,.string ⟨#[]⟩,.bool false,.int .u64 0,.string ⟨#[]⟩]),.int .i64 5]):=by
 go_enter Tryz.func79,Tryz.ntmps79
 have I:=lh_ (hp0 w)
 refine kSl fun K O=>?_;go_wp2
 refine kF_ O (al3_ I) fun Wx0 J=>?_;clear O K
 clear I;have I:=J;clear J
 generalize w.heap.size+1+1=gx2 at *
 generalize w.heap.size+1=gx1 at *
 refine wp_seq ?_
 have lx1:=kc1_ I
 refine ks3_ fun K O T Y=>?_
 refine tk ?_
 refine ck Tryz.call139 (fun w' hw=>fsign_any b t _ (ht.out)) ?_
 refine tk ?_
 refine nz Y I O ?_;clear Y T I lx1 O K;intro vw1 I
 refine wp_cond_true (by rfl) ?_
 refine ks1_ fun K O T Y=>?_
 refine tk ?_
 refine nlS Y I fun vw2 J=>?_
 clear Y T I
 have lx2:=kc2_ J;have fx2:=kf2_ J
 have r0:=Gr.refl vw2
 go_wp2
 refine kO O ?_;clear O K
 clear r0 lx2 fx2
 refine fH ((((J.out).put2 2 0 rfl).put2 2 2 rfl).put 2 4 _ rfl) fun Wx2 I=>?_
 clear J
 refine wp_ret ?_
 try simp only [Exit.then,Exit.inBlock]
 have lx2:=kc2_ I
 have r0:=Gr.refl Wx2
 exact bodyPost_ret (v:=.tuple #[(.agg #[.int .u64 0,.string ⟨#[]⟩,.bool false,.int .u64 0,.string ⟨#[]⟩]),.int .i64 5]) (by simp [results,Tryz.results79,go_sem,lx2 _ r0]) rfl ⟨rfl,I.out.1⟩
theorem fdiv_any (a b z:Rat) (w:World) (hz:a / b=z) (hb:b≠0) (hs_a:sz a≤100000000000) (hs_b:sz b≤100000000000) :
  CB 79 #[(Value.agg #[.int .u64 (lo a.num.natAbs),.string (bg a.num.natAbs),.bool (a.num<0),.int .u64 (lo (a.den - 1)),.string (bg (a.den - 1))]),(Value.agg #[.int .u64 (lo b.num.natAbs),.string (bg b.num.natAbs),.bool (b.num<0),.int .u64 (lo (b.den - 1)),.string (bg (b.den - 1))])] w (.tuple #[(Value.agg #[.int .u64 (lo z.num.natAbs),.string (bg z.num.natAbs),.bool (z.num<0),.int .u64 (lo (z.den - 1)),.string (bg (z.den - 1))]),.int .i64 0]):=by
 have hn:b.num≠0:=fun h=>hb (num_zero.1 h)
 refine xc6 a b z b⁻¹ (sgQ b) (lh_ (by rw [← hz,Rat.div_def])) (lh_ rfl) (lh_ rfl) ?_ om (Nat.le_trans (qY6 b) hs_b) hs_a hs_b w
 have:sgQ b≠0:=by unfold sgQ;rw [if_neg hb];split <;> decide
 simpa using this
theorem qS0 (a b:Rat) (w:World) (hb:b=0) :
  CB 79 #[(Value.agg #[.int .u64 (lo a.num.natAbs),.string (bg a.num.natAbs),.bool (a.num<0),.int .u64 (lo (a.den - 1)),.string (bg (a.den - 1))]),(Value.agg #[.int .u64 (lo b.num.natAbs),.string (bg b.num.natAbs),.bool (b.num<0),.int .u64 (lo (b.den - 1)),.string (bg (b.den - 1))])] w (.tuple #[.agg #[.int .u64 0,.string ⟨#[]⟩,.bool false,.int .u64 0,.string ⟨#[]⟩],.int .i64 5]) :=
 qS1 a b 0 (lh_ (by rw [hb];rfl)) rfl w
theorem qD1 (n d:Int) (z:Rat) (w:World) (hz:(n:Rat) / (d:Rat)=z) (hd:d≠0) (h1:-9223372036854775808≤n) (h2:n≤9223372036854775807) (h3:-9223372036854775808≤d) (h4:d≤9223372036854775807) :
  CB 104 #[.int .i64 n,.int .i64 d] w (.tuple #[(.agg #[.int .u64 (lo z.num.natAbs),.string (bg z.num.natAbs),.bool (z.num<0),.int .u64 (lo (z.den - 1)),.string (bg (z.den - 1))]),.int .i64 0]):=by
 replace hz:=lh_ hz
 go_enter Tryz.func104,Tryz.ntmps104
 have I:=lh_ (hp0 w)
 refine kSl fun K O=>?_;go_wp2
 refine kF_ O (al1_ I) fun Wx0 J=>?_;clear O K
 clear I;have I:=J;clear J
 obtain ⟨u1,HZ1⟩:=ex_ (((n:Int):Rat))
 have su1:sz u1≤2:=by rw [← HZ1.out];exact qf2 om om
 obtain ⟨u2,HZ2⟩:=ex_ (((d:Int):Rat))
 have su2:sz u2≤2:=by rw [← HZ2.out];exact qf2 om om
 have HZ3:Hid (u1 / u2=z):=lh_ (by rw [← HZ1.out,← HZ2.out,← hz.out])
 refine ks7_ fun K O T Y=>?_
 refine tk ?_
 refine ck Tryz.call147 (fun w' hw=>fint_any n u1 _ HZ1.out om om) ?_
 refine tk ?_
 refine ck Tryz.call147 (fun w' hw=>fint_any d u2 _ HZ2.out om om) ?_
 refine ck Tryz.call79 (fun w' hw=>fdiv_any u1 u2 z _ HZ3.out (by rw [← HZ2.out];exact fun h=>hd (Rat.intCast_inj.1 h)) om om) ?_
 refine tk2_ ?_
 refine nlS Y I fun vw1 J=>?_
 clear Y T I
 have lx0:=kc0_ J;have fx0:=kf0_ J
 have r0:=Gr.refl vw1
 go_wp2
 refine kO O ?_;clear O K
 clear r0 lx0 fx0
 refine fH ((((J.out).put2 0 0 rfl).put2 0 2 rfl).put 0 4 _ rfl) fun Wx1 I=>?_
 clear J
 refine wp_ret ?_
 try simp only [Exit.then,Exit.inBlock]
 have lx0:=kc0_ I
 have r0:=Gr.refl Wx1
 exact bR ⟨rfl,I.out.1⟩ (by simp [results,Tryz.results104,go_sem,lx0 _ r0])
end
section
open Go.RowKit
attribute [local go_sem ↓] Go.wp_at_zero Go.wp_at_succ
theorem qh5 {q:Rat} (h:q=0):sgQ q=0:=by subst h;rfl
theorem qy4 (n d:Int) (h1:-9223372036854775808≤n) (h2:n≤9223372036854775807) (h3:-9223372036854775808≤d) (h4:d≤9223372036854775807):sz ((n:Rat) / (d:Rat))≤4:=by
 have a:=qf2 h1 h2;have b:=qf2 h3 h4;have c:=sz_div (n:Rat) (d:Rat);omega
theorem xg9 (n d m:Int) (z:Rat) (w:World) (HM:Hid (max d 1=m)) (HZ:Hid ((n:Rat) / (m:Rat)=z)) (h1:-9223372036854775808≤n) (h2:n≤9223372036854775807) (h3:0≤d) (h4:d≤4294967295) :
  CB 50 #[.agg #[.int .i64 n,.int .u32 d]] w (.agg #[.int .u64 (lo z.num.natAbs),.string (bg z.num.natAbs),.bool (z.num<0),.int .u64 (lo (z.den - 1)),.string (bg (z.den - 1))]):=by
 have hm0:=HM.out
 have hm1:1≤m:=by omega
 have hm2:m≤4294967295:=by omega
 have hwm:IntKind.i64.wrap m=m:=by rw [IntKind.wrap_i64];omega
 go_enter Tryz.func50,Tryz.ntmps50
 have I:=lh_ (hp0 w)
 refine kSl fun K O=>?_;go_wp2
 refine kF_ O (al2_ I) fun Wx0 J=>?_;clear O K
 clear I;have I:=J;clear J
 generalize w.heap.size+1=gx1 at *
 have HZ1:Hid (((n:Int):Rat) / ((m:Int):Rat)=z):=lh_ (HZ.out)
 have su1:sz z≤4:=by have e:=HZ1.out;first|omega|(rw [← e];exact qy4 n m om om om om)
 have lx0:=kc0_ I
 refine xB_ fun K O T Y=>?_
 iterate 6 refine tk ?_
 refine ck Tryz.call104 (fun w' hw=>qD1 n m z _ HZ1.out (by first|decide|omega) om om om om) ?_
 refine tk3_ ?_
 refine nlS Y I fun vw1 J=>?_
 clear Y T I lx0
 go_wp2
 refine kF_ O (((J.out).aL (vw1.heap.size)).er 0) fun Wx1 I=>?_;clear O K
 clear J
 generalize vw1.heap.size=gx3 at *
 have lx3:=kc1_ I
 refine ks1_ fun K O T Y=>?_
 refine tk ?_
 refine nlS Y I fun vw2 J=>?_
 clear Y T I lx3
 have lx1:=kc0_ J;have fx1:=kf0_ J
 have r0:=Gr.refl vw2
 go_wp2
 refine kO O ?_;clear O K
 clear r0 lx1 fx1
 refine fH (((((J.out).put2 0 0 rfl).put2 0 2 rfl).put 0 4 _ rfl).er 1) fun Wx2 I=>?_
 clear J
 refine wp_ret ?_
 try simp only [Exit.then,Exit.inBlock]
 have lx1:=kc0_ I
 have r0:=Gr.refl Wx2
 exact bR ⟨rfl,I.out.1⟩ (by simp [results,Tryz.results50,go_sem,lx1 _ r0])
def qv (n d:Int):Rat:=(n:Rat) / ((max d 1:Int):Rat)
theorem qv_any (n d:Int) (z:Rat) (w:World) (hz:qv n d=z) (h1:-9223372036854775808≤n) (h2:n≤9223372036854775807) (h3:0≤d) (h4:d≤4294967295) :
  CB 50 #[.agg #[.int .i64 n,.int .u32 d]] w (Value.agg #[.int .u64 (lo z.num.natAbs),.string (bg z.num.natAbs),.bool (z.num<0),.int .u64 (lo (z.den - 1)),.string (bg (z.den - 1))]):=xg9 n d (max d 1) z w (lh_ rfl) (lh_ hz) h1 h2 h3 h4
theorem sz_qv (n d:Int) (h1:-9223372036854775808≤n) (h2:n≤9223372036854775807) (h3:0≤d) (h4:d≤4294967295):sz (qv n d)≤4:=qy4 n (max d 1) h1 h2 om om
end
section
open Go.RowKit
attribute [local go_sem ↓] Go.wp_at_zero Go.wp_at_succ
end
end Go.Proofs.YtobojnodohjiaaaGreatDoor
