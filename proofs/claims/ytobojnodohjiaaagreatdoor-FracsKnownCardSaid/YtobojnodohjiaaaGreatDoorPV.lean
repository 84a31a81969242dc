/- A pack of texts: Frac4, FPow, FMax2. No condition but those stated. -/
import Derived.Test.YtobojnodohjiaaaGreatDoorPL
import Derived.Test.YtobojnodohjiaaaGreatDoorIntDiv
import Derived.Test.YtobojnodohjiaaaGreatDoorHp
import Derived.Test.YtobojnodohjiaaaGreatDoorPJ
set_option maxRecDepth 100000
set_option maxHeartbeats 16000000
set_option linter.unusedVariables false
set_option linter.unusedSimpArgs false
namespace Go.Proofs.YtobojnodohjiaaaGreatDoor
section
open Go.RowKit
attribute [local go_sem ↓] Go.wp_at_zero Go.wp_at_succ
attribute [local go_sem ↓] eq_nat eq_nat_zero eq_int
theorem qg_ (a b:Rat) (w:World) (hb:b=0) :
  CB 79 #[(Value.agg #[.int .u64 (lo a.num.natAbs),.string (bg a.num.natAbs),.bool (a.num<0),.int .u64 (lo (a.den - 1)),.string (bg (a.den - 1))]),(Value.agg #[.int .u64 (lo b.num.natAbs),.string (bg b.num.natAbs),.bool (b.num<0),.int .u64 (lo (b.den - 1)),.string (bg (b.den - 1))])] w (.tuple #[(Value.agg #[.int .u64 (lo (Int.natAbs (((0:Rat)).num))),.string (bg (Int.natAbs (((0:Rat)).num))),.bool (decide ((((0:Rat)).num)<0)),.int .u64 (lo (((0:Rat)).den - 1)),.string (bg (((0:Rat)).den - 1))]),.int .i64 5]):=qS0 a b w hb
theorem qd7 (n:Int) (d:Nat) (z:Rat) (w:World) (HZ:Hid (mkRat n d=z)) (hd:0<d) (hn9:wl n.natAbs≤100000000000) (hd9:wl d≤100000000000) :
  CB 102 #[(Value.agg #[.int .u64 (lo n.natAbs),.string (bg n.natAbs),.bool (n<0)]),.agg #[.int .u64 (lo d),.string (bg d)]] w (.tuple #[(.agg #[.int .u64 (lo z.num.natAbs),.string (bg z.num.natAbs),.bool (z.num<0),.int .u64 (lo (z.den - 1)),.string (bg (z.den - 1))]),.int .i64 0]):=by
 go_enter Tryz.func102,Tryz.ntmps102
 have I:=lh_ (hp0 w)
 refine kSl fun K O=>?_;go_wp2
 refine kF_ O (al3_ I) fun Wx0 J=>?_;clear O K
 clear I;have I:=J;clear J
 generalize w.heap.size+1+1=gx2 at *
 generalize w.heap.size+1=gx1 at *
 refine wp_seq ?_
 have hd1:decide (d=0)=false:=decide_eq_false ok
 have lx1:=kc1_ I
 refine ks3_ fun K O T Y=>?_
 refine tk3_ ?_
 refine nz Y I O ?_;clear Y T I lx1 O K;intro vw1 I
 clear hd1
 refine wp_cond_false (by rfl) ?_
 refine wp_skip ?_
 show Code.wp _ _ _ _ _
 have HZ1:Hid (mkRat n d=z):=lh_ (HZ.out)
 have su1:sz z≤100000000000:=by have e:=HZ1.out;first|omega|(rw [← e];exact qc3 (k:=100000000000) om om (by decide))
 have lx0:=kc0_ I
 have lx1:=kc1_ I
 refine ks3_ fun K O T Y=>?_
 refine tk2_ ?_
 refine ck Tryz.call189 (fun w' hw=>qf6 n d z HZ1 ok om om _) ?_
 refine nlS Y I fun vw2 J=>?_
 clear Y T I lx0 lx1
 have lx2:=kc2_ J;have fx2:=kf2_ J
 have r0:=Gr.refl vw2
 go_wp2
 refine kO O ?_;clear O K
 clear r0 lx2 fx2
 refine fH ((((((J.out).put2 2 0 rfl).put2 2 2 rfl).put 2 4 _ rfl).er 1).er 0) fun Wx3 I=>?_
 clear J
 refine wp_ret ?_
 try simp only [Exit.then,Exit.inBlock]
 have lx2:=kc0_ I
 have r0:=Gr.refl Wx3
 exact bR ⟨rfl,I.out.1⟩ (by simp [results,Tryz.results102,go_sem,lx2 _ r0])
theorem xc7 (n:Int) (d:Nat) (w:World) (hd:d=0) :
  CB 102 #[(Value.agg #[.int .u64 (lo n.natAbs),.string (bg n.natAbs),.bool (n<0)]),.agg #[.int .u64 (lo d),.string (bg d)]] w ((.tuple #[(.agg #[.int .u64 0,.string ⟨#[]⟩,.bool false,.int .u64 0,.string ⟨#[]⟩]),.int .i64 5])):=by
 go_enter Tryz.func102,Tryz.ntmps102
 have I:=lh_ (hp0 w)
 refine kSl fun K O=>?_;go_wp2
 refine kF_ O (al3_ I) fun Wx0 J=>?_;clear O K
 clear I;have I:=J;clear J
 generalize w.heap.size+1+1=gx2 at *
 generalize w.heap.size+1=gx1 at *
 refine wp_seq ?_
 have hd1:decide (d=0)=true:=decide_eq_true ok
 have lx1:=kc1_ I
 refine ks3_ fun K O T Y=>?_
 refine tk3_ ?_
 refine nz Y I O ?_;clear Y T I lx1 O K;intro vw1 I
 clear hd1
 refine wp_cond_true (by rfl) ?_
 refine ks1_ fun K O T Y=>?_
 refine tk ?_
 refine nlS Y I fun vw2 J=>?_
 clear Y T I
 have lx2:=kc2_ J;have fx2:=kf2_ J
 have r0:=Gr.refl vw2
 go_wp2
 refine kO O ?_;clear O K
 clear r0 lx2 fx2
 refine fH ((((J.out).put2 2 0 rfl).put2 2 2 rfl).put 2 4 _ rfl) fun Wx2 I=>?_
 clear J
 refine wp_ret ?_
 try simp only [Exit.then,Exit.inBlock]
 have lx2:=kc2_ I
 have r0:=Gr.refl Wx2
 exact bodyPost_ret (v:=.tuple #[(.agg #[.int .u64 0,.string ⟨#[]⟩,.bool false,.int .u64 0,.string ⟨#[]⟩]),.int .i64 5]) (by simp [results,Tryz.results102,go_sem,lx2 _ r0]) rfl ⟨rfl,I.out.1⟩
theorem qp2 (n:Int) (d:Nat) (w:World) (hd:d=0) :
  CB 102 #[(Value.agg #[.int .u64 (lo n.natAbs),.string (bg n.natAbs),.bool (n<0)]),.agg #[.int .u64 (lo d),.string (bg d)]] w (.tuple #[(Value.agg #[.int .u64 (lo (Int.natAbs (((0:Rat)).num))),.string (bg (Int.natAbs (((0:Rat)).num))),.bool (decide ((((0:Rat)).num)<0)),.int .u64 (lo (((0:Rat)).den - 1)),.string (bg (((0:Rat)).den - 1))]),.int .i64 5]):=xc7 n d w hd
theorem qm5 (q:Rat) (w:World)  :
  CB 40 #[(Value.agg #[.int .u64 (lo q.num.natAbs),.string (bg q.num.natAbs),.bool (q.num<0),.int .u64 (lo (q.den - 1)),.string (bg (q.den - 1))])] w (((Value.agg #[.int .u64 (lo q.num.natAbs),.string (bg q.num.natAbs),.bool (q.num<0)]))):=by
 go_enter Tryz.func40,Tryz.ntmps40
 have I:=lh_ (hp0 w)
 refine kSl fun K O=>?_;go_wp2
 refine kF_ O (al2_ I) fun Wx0 J=>?_;clear O K
 clear I;have I:=J;clear J
 generalize w.heap.size+1=gx1 at *
 have lx0:=kc0_ I
 refine ks2_ fun K O T Y=>?_
 refine tk2_ ?_
 refine nlS Y I fun vw1 J=>?_
 clear Y T I lx0
 have lx1:=kc1_ J;have fx1:=kf1_ J
 have r0:=Gr.refl vw1
 go_wp2
 refine kO O ?_;clear O K
 clear r0 lx1 fx1
 refine fH ((((J.out).put2 1 0 rfl).put 1 2 _ rfl).er 0) fun Wx1 I=>?_
 clear J
 refine wp_ret ?_
 try simp only [Exit.then,Exit.inBlock]
 have lx1:=kc0_ I
 have r0:=Gr.refl Wx1
 exact bR ⟨rfl,I.out.1⟩ (by simp [results,Tryz.results40,go_sem,lx1 _ r0])
theorem xu_ (q:Rat) (z:Int) (w:World) (hz:q.num=z) :
  CB 40 #[(Value.agg #[.int .u64 (lo q.num.natAbs),.string (bg q.num.natAbs),.bool (q.num<0),.int .u64 (lo (q.den - 1)),.string (bg (q.den - 1))])] w (Value.agg #[.int .u64 (lo z.natAbs),.string (bg z.natAbs),.bool (z<0)]):=hz ▸ qm5 q w
theorem qr_ (q:Rat) (w:World) (hs:sz q≤100000000000) :
  CB 38 #[(Value.agg #[.int .u64 (lo q.num.natAbs),.string (bg q.num.natAbs),.bool (q.num<0),.int .u64 (lo (q.den - 1)),.string (bg (q.den - 1))])] w (((Value.agg #[.int .u64 (lo (q.den)),.string (bg (q.den))]))):=by
 go_enter Tryz.func38,Tryz.ntmps38
 have I:=lh_ (hp0 w)
 refine kSl fun K O=>?_;go_wp2
 refine kF_ O (al2_ I) fun Wx0 J=>?_;clear O K
 clear I;have I:=J;clear J
 generalize w.heap.size+1=gx1 at *
 have su1:wl (q.den)≤100000000000:=Nat.le_trans (sz_den _) om
 have sp1:0<(q).den:=(q).den_pos
 have lx0:=kc0_ I
 refine ks2_ fun K O T Y=>?_
 refine tk ?_
 refine ck Tryz.call114 (fun w' hw=>qd3 q om _) ?_
 refine nlS Y I fun vw1 J=>?_
 clear Y T I lx0
 have lx1:=kc1_ J;have fx1:=kf1_ J
 have r0:=Gr.refl vw1
 go_wp2
 refine kO O ?_;clear O K
 clear r0 lx1 fx1
 refine fH (((J.out).put2 1 0 rfl).er 0) fun Wx1 I=>?_
 clear J
 refine wp_ret ?_
 try simp only [Exit.then,Exit.inBlock]
 have lx1:=kc0_ I
 have r0:=Gr.refl Wx1
 exact bR ⟨rfl,I.out.1⟩ (by simp [results,Tryz.results38,go_sem,lx1 _ r0])
def qabs (q:Rat):Rat:=if q<0 then -q else q
theorem xg5 (q:Rat):(qabs q).den=q.den:=by unfold qabs;split <;> rfl
theorem xg7 (q:Rat):(if false then -((Int.natAbs (q.num):Nat):Int) else ((Int.natAbs (q.num):Nat):Int))=(qabs q).num:=by
 rw [if_neg (by decide)]
 unfold qabs
 split
 ·rename_i h
  have:=qi9.2 h
  rw [Rat.neg_num];omega
 rename_i h
 have:¬ q.num<0:=fun e=>h (qi9.1 e)
 omega
theorem qy3 (q:Rat):sz (qabs q)=sz q:=by unfold qabs;split;rw [qn8];rfl
theorem xc4 (q r:Rat) (w:World) (HR:Hid (qabs q=r)) :
  CB 137 #[(Value.agg #[.int .u64 (lo q.num.natAbs),.string (bg q.num.natAbs),.bool (q.num<0),.int .u64 (lo (q.den - 1)),.string (bg (q.den - 1))])] w ((.agg #[.int .u64 (lo r.num.natAbs),.string (bg r.num.natAbs),.bool (r.num<0),.int .u64 (lo (q.den - 1)),.string (bg (q.den - 1))])):=by
 go_enter Tryz.func137,Tryz.ntmps137
 have I:=lh_ (hp0 w)
 refine kSl fun K O=>?_;go_wp2
 refine kF_ O (al2_ I) fun Wx0 J=>?_;clear O K
 clear I;have I:=J;clear J
 generalize w.heap.size+1=gx1 at *
 have HZ1:Hid ((if false then -((Int.natAbs (q.num):Nat):Int) else ((Int.natAbs (q.num):Nat):Int))=(r).num):=lh_ (by rw [← HR.out];exact xg7 q)
 have lx0:=kc0_ I
 refine kS fun K O=>?_
 refine xD6 fun T Y=>?_
 iterate 4 refine tk ?_
 refine ck Tryz.call100 (fun w' hw=>qd9 (q.num) _) ?_
 refine ck Tryz.call37 (fun w' hw=>qa7 false q.num.natAbs (r.num) _ HZ1.out) ?_
 refine tk ?_
 refine nlD Y I fun vw1 J=>?_
 clear Y T I lx0
 have lx1:=kc1_ J;have fx1:=kf1_ J
 have r0:=Gr.refl vw1
 go_wp2
 refine kO O ?_;clear O K
 clear r0 lx1 fx1
 refine fH (((((J.out).put2 1 0 rfl).put2 1 2 rfl).put 1 4 _ rfl).er 0) fun Wx1 I=>?_
 clear J
 refine wp_ret ?_
 try simp only [Exit.then,Exit.inBlock]
 have lx1:=kc0_ I
 have r0:=Gr.refl Wx1
 exact bR ⟨rfl,I.out.1⟩ (by simp [results,Tryz.results137,go_sem,lx1 _ r0])
theorem qs0 (q r:Rat) (w:World) (hr:qabs q=r) :
  CB 137 #[(Value.agg #[.int .u64 (lo q.num.natAbs),.string (bg q.num.natAbs),.bool (q.num<0),.int .u64 (lo (q.den - 1)),.string (bg (q.den - 1))])] w (Value.agg #[.int .u64 (lo r.num.natAbs),.string (bg r.num.natAbs),.bool (r.num<0),.int .u64 (lo (r.den - 1)),.string (bg (r.den - 1))]):=by
 have e:q.den=r.den:=by rw [← hr,xg5]
 refine (xc4 q r w (lh_ hr)).mono ?_
 rintro _ w' ⟨rfl,hb⟩
 exact ⟨by rw [e],hb⟩
theorem qi8 (q z:Rat) (w:World) (HZ:Hid (q*q=z)) (hs:sz q≤10000000000) :
  CB 145 #[(Value.agg #[.int .u64 (lo q.num.natAbs),.string (bg q.num.natAbs),.bool (q.num<0),.int .u64 (lo (q.den - 1)),.string (bg (q.den - 1))])] w (.agg #[.int .u64 (lo z.num.natAbs),.string (bg z.num.natAbs),.bool (z.num<0),.int .u64 (lo (z.den - 1)),.string (bg (z.den - 1))]):=by
 go_enter Tryz.func145,Tryz.ntmps145
 have I:=lh_ (hp0 w)
 refine kSl fun K O=>?_;go_wp2
 refine kF_ O (al2_ I) fun Wx0 J=>?_;clear O K
 clear I;have I:=J;clear J
 generalize w.heap.size+1=gx1 at *
 have HZ1:Hid (q*(q)=z):=lh_ (HZ.out)
 have su1:sz z≤20000000000:=by have e:=HZ1.out;first|omega|(rw [← e];have:=sz_mul q q;omega)
 have lx0:=kc0_ I
 refine ks3_ fun K O T Y=>?_
 refine tk2_ ?_
 refine ck Tryz.call134 (fun w' hw=>fmul_any q q z _ HZ1.out om om) ?_
 refine nlS Y I fun vw1 J=>?_
 clear Y T I lx0
 have lx1:=kc1_ J;have fx1:=kf1_ J
 have r0:=Gr.refl vw1
 go_wp2
 refine kO O ?_;clear O K
 clear r0 lx1 fx1
 refine fH (((((J.out).put2 1 0 rfl).put2 1 2 rfl).put 1 4 _ rfl).er 0) fun Wx1 I=>?_
 clear J
 refine wp_ret ?_
 try simp only [Exit.then,Exit.inBlock]
 have lx1:=kc0_ I
 have r0:=Gr.refl Wx1
 exact bR ⟨rfl,I.out.1⟩ (by simp [results,Tryz.results145,go_sem,lx1 _ r0])
theorem qg9 (q:Rat):wl (Int.natAbs (q.floor))≤sz q+1:=by
 rw [Rat.floor_def]
 exact Nat.le_trans (xa1 _ _) (by have:=sz_num q;omega)
theorem qw3 (q:Rat):-((-q).floor)=q.ceil:=(Rat.ceil_eq_neg_floor_neg q).symm
theorem qF6 (q:Rat):wl (Int.natAbs (q.ceil))≤sz q+1:=by
 rw [← qw3,Int.natAbs_neg,← qn8 q]
 exact qg9 (-q)
theorem qe4 (q:Rat) (z:Int) (w:World) (HZ:Hid (q.floor=z)) (hs:sz q≤10000000000) :
  CB 142 #[(Value.agg #[.int .u64 (lo q.num.natAbs),.string (bg q.num.natAbs),.bool (q.num<0),.int .u64 (lo (q.den - 1)),.string (bg (q.den - 1))])] w (.agg #[.int .u64 (lo z.natAbs),.string (bg z.natAbs),.bool (z<0)]):=by
 have hn_q:wl q.num.natAbs≤10000000000:=Nat.le_trans (sz_num q) hs
 have hp_q:=q.den_pos
 go_enter Tryz.func142,Tryz.ntmps142
 have I:=lh_ (hp0 w)
 refine kSl fun K O=>?_;go_wp2
 refine kF_ O (al2_ I) fun Wx0 J=>?_;clear O K
 clear I;have I:=J;clear J
 generalize w.heap.size+1=gx1 at *
 obtain ⟨u1,HZ1⟩:=ex_ ((q.den:Int))
 have su1:wl u1.natAbs≤10000000000:=by rw [← HZ1.out];rw [Int.natAbs_natCast];exact Nat.le_trans (sz_den _) om
 have HZ2:Hid ((q.num) / u1=z):=lh_ (by rw [← HZ.out,Rat.floor_def];simp only [← HZ1.out])
 have su2:wl z.natAbs≤10000000001:=by have e:=HZ2.out;first|omega|(rw [← e];have:=xa1 (q.num) u1;omega)
 obtain ⟨u3,HZ3⟩:=ex_ ((q.num) % u1)
 have su3:wl u3.natAbs≤10000000000:=by rw [← HZ3.out];have:=xs5 (q.num) u1 (by simp only [← HZ1.out];omega);omega
 have lx0:=kc0_ I
 refine kS fun K O=>?_
 refine wp_region_plan 11 [9,10] [7,8] (fun i=>if i=9 then 3 else 4) (fun i=>if i=9 then .cells #[.int .u64 0,.string ⟨#[]⟩,.bool false] 34 else .cells #[.int .u64 0,.string ⟨#[]⟩,.bool false] 34) [(true,0),(true,1),(true,2),(true,3),(true,4),(true,5),(true,6),(true,7),(true,8)] (by kernel_rfl) (by kernel_rfl) zb7_ xA8 (fun _ _ _ _ _ h=>h) (fun T Y=>?_)
 refine tk3_ ?_
 refine ck Tryz.call213 (fun w' hw=>qe3 q u1 _ HZ1.out om) ?_
 refine ck Tryz.call42 (fun w' hw=>xE7 (q.num) u1 z u3 _ HZ2.out HZ3.out (by simp only [← HZ3.out,← HZ1.out];omega) om om) ?_
 iterate 4 refine tk ?_
 refine wpPlan_nil (Y.out _ _ ?_)
 intro G vw1 hg hf
 simp only [puts,Act.put,lA,lB,lC,lD,lE,↓reduceIte,Nat.reduceEqDiff]
 have J:=lh_ (I.out.fr hg hf (zs:=[(#[.int .u64 0,.string ⟨#[]⟩,.bool false],34),(#[.int .u64 0,.string ⟨#[]⟩,.bool false],34)]) rfl (by decide) (by decide))
 simp only [zq1_,zq2_,zq3_,zq4_,lF,lG] at J
 clear Y T I hg hf lx0
 generalize G 9=gx3 at *
 generalize G 10=gx4 at *
 have lx3:=kc2_ J;have fx3:=kf2_ J
 have lx4:=kc3_ J;have fx4:=kf3_ J
 have r0:=Gr.refl vw1
 obtain ⟨d3_4,d4_3⟩:=J.out.ne 2 3 rfl rfl (by decide)
 go_wp2
 refine kO O ?_;clear O K
 clear r0 lx3 fx3 lx4 fx4 d3_4 d4_3
 refine fH (((((((J.out).put2 2 0 rfl).put 2 2 _ rfl).put2 3 0 rfl).put 3 2 _ rfl).er 3).er 0) fun Wx1 I=>?_
 clear J
 have lx3:=kc1_ I
 refine ks1_ fun K O T Y=>?_
 refine tk ?_
 refine nlS Y I fun vw2 J=>?_
 clear Y T I lx3
 have lx1:=kc0_ J;have fx1:=kf0_ J
 have r0:=Gr.refl vw2
 go_wp2
 refine kO O ?_;clear O K
 clear r0 lx1 fx1
 refine fH ((((J.out).put2 0 0 rfl).put 0 2 _ rfl).er 1) fun Wx2 I=>?_
 clear J
 refine wp_ret ?_
 try simp only [Exit.then,Exit.inBlock]
 have lx1:=kc0_ I
 have r0:=Gr.refl Wx2
 exact bR ⟨rfl,I.out.1⟩ (by simp [results,Tryz.results142,go_sem,lx1 _ r0])
theorem qt4 (q:Rat) (z:Int) (w:World) (HZ:Hid (q.ceil=z)) (hs:sz q≤10000000000) :
  CB 148 #[(Value.agg #[.int .u64 (lo q.num.natAbs),.string (bg q.num.natAbs),.bool (q.num<0),.int .u64 (lo (q.den - 1)),.string (bg (q.den - 1))])] w (.agg #[.int .u64 (lo z.natAbs),.string (bg z.natAbs),.bool (z<0)]):=by
 go_enter Tryz.func148,Tryz.ntmps148
 have I:=lh_ (hp0 w)
 refine kSl fun K O=>?_;go_wp2
 refine kF_ O (al2_ I) fun Wx0 J=>?_;clear O K
 clear I;have I:=J;clear J
 generalize w.heap.size+1=gx1 at *
 obtain ⟨u1,HZ1⟩:=ex_ (-(q))
 have su1:sz u1≤10000000000:=by rw [← HZ1.out];rw [qn8];omega
 obtain ⟨u2,HZ2⟩:=ex_ (u1.floor)
 have su2:wl u2.natAbs≤10000000001:=by rw [← HZ2.out];have:=qg9 u1;omega
 have HZ3:Hid (-(u2)=z):=lh_ (by rw [← HZ.out,← qw3];simp only [← HZ2.out,← HZ1.out])
 have su3:wl z.natAbs≤10000000001:=by have e:=HZ3.out;first|omega|(rw [← e];rw [Int.natAbs_neg];omega)
 have lx0:=kc0_ I
 refine qb2 fun K O T Y=>?_
 refine tk ?_
 refine ck Tryz.call45 (fun w' hw=>qk2 q u1 _ HZ1.out) ?_
 refine ck Tryz.call142 (fun w' hw=>qe4 u1 u2 _ (lh_ HZ2.out) om) ?_
 refine ck Tryz.call44 (fun w' hw=>xB2 u2 z _ HZ3.out) ?_
 refine nlS Y I fun vw1 J=>?_
 clear Y T I lx0
 have lx1:=kc1_ J;have fx1:=kf1_ J
 have r0:=Gr.refl vw1
 go_wp2
 refine kO O ?_;clear O K
 clear r0 lx1 fx1
 refine fH ((((J.out).put2 1 0 rfl).put 1 2 _ rfl).er 0) fun Wx1 I=>?_
 clear J
 refine wp_ret ?_
 try simp only [Exit.then,Exit.inBlock]
 have lx1:=kc0_ I
 have r0:=Gr.refl Wx1
 exact bR ⟨rfl,I.out.1⟩ (by simp [results,Tryz.results148,go_sem,lx1 _ r0])
theorem xv0 (n:Int) (w:World) (h1:-9223372036854775808≤n) (h2:n≤9223372036854775807) :
  CB 104 #[.int .i64 n,.int .i64 0] w ((.tuple #[(Value.agg #[.int .u64 (lo (Int.natAbs (((0:Rat)).num))),.string (bg (Int.natAbs (((0:Rat)).num))),.bool (decide ((((0:Rat)).num)<0)),.int .u64 (lo (((0:Rat)).den - 1)),.string (bg (((0:Rat)).den - 1))]),.int .i64 5])):=by
 go_enter Tryz.func104,Tryz.ntmps104
 have I:=lh_ (hp0 w)
 refine kSl fun K O=>?_;go_wp2
 refine kF_ O (al1_ I) fun Wx0 J=>?_;clear O K
 clear I;have I:=J;clear J
 obtain ⟨u1,HZ1⟩:=ex_ (((n:Int):Rat))
 have su1:sz u1≤2:=by rw [← HZ1.out];exact qf2 om om
 have HZ2:Hid (((0:Int):Rat)=(0:Rat)):=lh_ (by decide +kernel)
 have su2:sz ((0:Rat))≤2:=sz_of (wl_le.2 (by decide +kernel)) (wl_le.2 (by decide +kernel))
 refine ks7_ fun K O T Y=>?_
 refine tk ?_
 refine ck Tryz.call147 (fun w' hw=>fint_any n u1 _ HZ1.out om om) ?_
 refine tk ?_
 refine ck Tryz.call147 (fun w' hw=>fint_any (0) (0:Rat) _ HZ2.out om om) ?_
 refine ck Tryz.call79 (fun w' hw=>qg_ u1 (0:Rat) _ xE6) ?_
 refine tk2_ ?_
 refine nlS Y I fun vw1 J=>?_
 clear Y T I
 have lx0:=kc0_ J;have fx0:=kf0_ J
 have r0:=Gr.refl vw1
 go_wp2
 refine kO O ?_;clear O K
 clear r0 lx0 fx0
 refine fH ((((J.out).put2 0 0 rfl).put2 0 2 rfl).put 0 4 _ rfl) fun Wx1 I=>?_
 clear J
 refine wp_ret ?_
 try simp only [Exit.then,Exit.inBlock]
 have lx0:=kc0_ I
 have r0:=Gr.refl Wx1
 exact bR ⟨rfl,I.out.1⟩ (by simp [results,Tryz.results104,go_sem,lx0 _ r0])
theorem qH9 (n d:Int) (w:World) (hd:d=0) (h1:-9223372036854775808≤n) (h2:n≤9223372036854775807) :
  CB 104 #[.int .i64 n,.int .i64 d] w (.tuple #[(Value.agg #[.int .u64 (lo (Int.natAbs (((0:Rat)).num))),.string (bg (Int.natAbs (((0:Rat)).num))),.bool (decide ((((0:Rat)).num)<0)),.int .u64 (lo (((0:Rat)).den - 1)),.string (bg (((0:Rat)).den - 1))]),.int .i64 5]):=by
 subst hd
 exact xv0 n w h1 h2
end
section
open Go.RowKit
attribute [local go_sem ↓] Go.wp_at_zero Go.wp_at_succ
attribute [local go_sem ↓] eq_nat eq_nat_zero eq_int
theorem qq5 (n:Int) (j:Nat):(-n) ^ (2*j)=n ^ (2*j):=by
 rw [Int.pow_mul,Int.pow_mul]
 congr 1
 rw [Int.pow_succ,Int.pow_succ,Int.pow_succ,Int.pow_succ,Int.pow_zero,Int.pow_zero,Int.one_mul,Int.one_mul,Int.neg_mul_neg]
theorem qt9 (a z:Rat) (k:Nat) (hz:a ^ k=z) (h:0≤a.num):((a.num.natAbs ^ k:Nat):Int)=z.num:=by
 rw [← hz,Rat.num_pow,Int.natCast_pow,Int.natAbs_of_nonneg h]
theorem qq7 (a z:Rat) (k:Nat) (hz:a ^ k=z) (h:a.num<0) (hk:k % 2=0):((a.num.natAbs ^ k:Nat):Int)=z.num:=by
 obtain ⟨j,rfl⟩:∃ j,k=2*j:=⟨k / 2,by omega⟩
 rw [← hz,Rat.num_pow,Int.natCast_pow,show ((a.num.natAbs:Nat):Int) = -a.num by omega,qq5]
theorem qt8 (a z:Rat) (k:Nat) (hz:a ^ k=z) (h:a.num<0) (hk:k % 2=1):-((a.num.natAbs ^ k:Nat):Int)=z.num:=by
 obtain ⟨j,rfl⟩:∃ j,k=2*j+1:=⟨k / 2,by omega⟩
 rw [← hz,Rat.num_pow,Int.natCast_pow,show ((a.num.natAbs:Nat):Int) = -a.num by omega,Int.pow_succ,qq5,Int.pow_succ,Int.mul_neg,Int.neg_neg]
theorem xy4 (k:Nat) (h:k % 2=1):Int.tmod ((k:Nat):Int) 2=1:=by
 rw [Int.tmod_eq_emod_of_nonneg om];omega
theorem xr4 (k:Nat) (h:k % 2=0):Int.tmod ((k:Nat):Int) 2=0:=by
 rw [Int.tmod_eq_emod_of_nonneg om];omega
theorem xh5 {a:Rat} (h:¬ a<0):¬ sgQ a<0:=by
 unfold sgQ;rw [if_neg h];split <;> decide
theorem inv_sz (a:Rat):(1 / a).num.natAbs=(if a.num=0 then 0 else a.den)∧(1 / a).den=(if a.num=0 then 1 else a.num.natAbs):=by
 rw [Rat.div_def,Rat.one_mul,Rat.num_inv,Rat.den_inv]
 refine ⟨?_,rfl⟩
 rw [Int.natAbs_mul,Int.natAbs_natCast]
 split
 ·rename_i h;rw [h];simp
 rename_i h;rw [Int.natAbs_sign_of_ne_zero h,Nat.one_mul]
theorem qN0 (a:Rat) {M:Nat} (h:sz a≤M):sz (1 / a)≤M:=by
 rw [Rat.div_def,Rat.one_mul];exact Nat.le_trans (qY6 a) h
theorem xd8 (a z:Rat) (k:Nat) (w:World) (HP1:Hid (k*nb a.num.natAbs≤262144)) (HP2:Hid (k*nb a.den≤262144)) (HZ:Hid (a ^ k=z)) (hk:k≤4096) (hs:sz a≤8192) (ha:a<0) (HK:Hid (k % 2=1)) :
  CB 151 #[(Value.agg #[.int .u64 (lo a.num.natAbs),.string (bg a.num.natAbs),.bool (a.num<0),.int .u64 (lo (a.den - 1)),.string (bg (a.den - 1))]),.int .i64 (((k:Nat):Int))] w (.tuple #[(.agg #[.int .u64 (lo z.num.natAbs),.string (bg z.num.natAbs),.bool (z.num<0),.int .u64 (lo (z.den - 1)),.string (bg (z.den - 1))]),.int .i64 0]):=by
 have hn_a:wl a.num.natAbs≤8192:=Nat.le_trans (sz_num a) hs
 have hd_a:wl (a.den)≤8192:=Nat.le_trans (sz_den a) hs
 go_enter Tryz.func151,Tryz.ntmps151
 have I:=lh_ (hp0 w)
 refine kSl fun K O=>?_;go_wp2
 refine kF_ O (al2_ I) fun Wx0 J=>?_;clear O K
 clear I;have I:=J;clear J
 generalize w.heap.size+1=gx1 at *
 refine wp_seq ?_
 refine wp_block ?_
 have hd1:¬ ((((k:Nat):Int)) < -4096):=ok
 have hd2:¬ (4096<(((k:Nat):Int))):=ok
 refine ks7_ fun K O T Y=>?_
 iterate 7 refine tk ?_
 refine nz Y I O ?_;clear Y T I O K;intro vw1 I
 clear hd1 hd2
 refine wp_cond_false (by rfl) ?_
 have hd3:¬ ((((k:Nat):Int))<0):=ok
 have hd4:¬ (k<0):=by have e:=hd3;omega
 refine ks3_ fun K O T Y=>?_
 refine tk3_ ?_
 refine nz Y I O ?_;clear Y T I O K;intro vw2 I
 clear hd3 hd4
 refine wp_cond_false (by rfl) ?_
 refine wp_skip ?_
 show Code.wp _ _ _ _ _
 obtain ⟨u1,HZ1⟩:=ex_ (a.num.natAbs ^ k)
 have su1:wl u1≤8192:=by rw [← HZ1.out];exact wl_pow _ _ (HP1.out)
 have lx0:=kc0_ I
 refine qd4 fun K O T Y=>?_
 refine tk2_ ?_
 refine ck Tryz.call100 (fun w' hw=>qd9 (a.num) _) ?_
 refine tk ?_
 refine ck Tryz.call164 (fun w' hw=>qM_ a.num.natAbs k u1 _ HZ1.out om (HP1.out) om) ?_
 refine tk3_ ?_
 refine nlS Y I fun vw3 J=>?_
 clear Y T I lx0
 go_wp2
 refine kF_ O ((J.out).aL (vw3.heap.size)) fun Wx8 I=>?_;clear O K
 clear J
 generalize vw3.heap.size=gx3 at *
 have su2:wl (a.den)≤8192:=Nat.le_trans (sz_den _) om
 have sp2:0<(a).den:=(a).den_pos
 have HZ3:Hid ((a.den) ^ k=(z).den):=lh_ (by rw [← HZ.out];rfl)
 have su3:wl (z.den)≤8192:=by have e:=HZ3.out;first|omega|(rw [← e];exact wl_pow _ _ (HP2.out))
 have lx0:=kc0_ I
 refine ks7_ fun K O T Y=>?_
 refine tk ?_
 refine ck Tryz.call114 (fun w' hw=>qd3 a om _) ?_
 refine tk ?_
 refine ck Tryz.call164 (fun w' hw=>qM_ (a.den) k (z.den) _ HZ3.out om (HP2.out) om) ?_
 refine tk3_ ?_
 refine nlS Y I fun vw4 J=>?_
 clear Y T I lx0
 go_wp2
 refine kF_ O ((J.out).aL (vw4.heap.size)) fun Wx9 I=>?_;clear O K
 clear J
 generalize vw4.heap.size=gx4 at *
 refine wp_seq ?_
 refine qa2 fun K O T Y=>?_
 iterate 6 refine tk ?_
 refine nz Y I O ?_;clear Y T I O K;intro vw5 I
 refine wp_cond_false (by rfl) ?_
 refine wp_skip ?_
 show Code.wp _ _ _ _ _
 have hrem:Int.tmod ((k:Nat):Int) 2=1:=xy4 k HK.out
 have HZ4:Hid ((if true then -((u1:Nat):Int) else ((u1:Nat):Int))=(z).num):=lh_ (by rw [← HZ1.out];first|(rw [if_pos rfl];exact qt8 a z k HZ.out (qi9.2 ha) HK.out)|(rw [if_neg (by decide)];exact qt8 a z k HZ.out (qi9.2 ha) HK.out))
 have su4:wl z.num.natAbs≤8192:=by have e:=HZ4.out;first|omega|(rw [← e];split <;> simp <;> omega)
 have HZ5:Hid (mkRat (z.num) (z.den)=z):=lh_ (Rat.mkRat_self z)
 have su5:sz z≤8192:=by have e:=HZ5.out;first|omega|(rw [← e];exact qc3 (k:=8192) om om (by decide))
 have lx0:=kc0_ I
 have lx3:=kc2_ I
 have lx4:=kc3_ I
 refine kS fun K O=>?_
 refine xp5 fun T Y=>?_
 refine tk3_ ?_
 refine ck Tryz.call139 (fun w' hw=>fsign_any a (-1) _ xA_) ?_
 iterate 6 refine tk ?_
 refine ck Tryz.call37 (fun w' hw=>qa7 true u1 (z.num) _ HZ4.out) ?_
 refine ck Tryz.call102 (fun w' hw=>qd7 (z.num) (z.den) z _ (lh_ HZ5.out) (by exact z.den_pos) om om) ?_
 refine tk2_ ?_
 refine nlD Y I fun vw6 J=>?_
 clear Y T I lx0 lx3 lx4
 have lx1:=kc1_ J;have fx1:=kf1_ J
 have r0:=Gr.refl vw6
 go_wp2
 refine kO O ?_;clear O K
 clear r0 lx1 fx1
 refine fH (((((((J.out).put2 1 0 rfl).put2 1 2 rfl).put 1 4 _ rfl).er 3).er 2).er 0) fun Wx12 I=>?_
 clear J
 clear hrem
 refine wp_ret ?_
 try simp only [Exit.then,Exit.inBlock]
 have lx1:=kc0_ I
 have r0:=Gr.refl Wx12
 exact bR ⟨rfl,I.out.1⟩ qG7
theorem qT0 (a z:Rat) (k:Nat) (w:World) (HP1:Hid (k*nb a.num.natAbs≤262144)) (HP2:Hid (k*nb a.den≤262144)) (HZ:Hid (a ^ k=z)) (hk:k≤4096) (hs:sz a≤8192) (ha:a<0) (HK:Hid (k % 2=0)) :
  CB 151 #[(Value.agg #[.int .u64 (lo a.num.natAbs),.string (bg a.num.natAbs),.bool (a.num<0),.int .u64 (lo (a.den - 1)),.string (bg (a.den - 1))]),.int .i64 (((k:Nat):Int))] w (.tuple #[(.agg #[.int .u64 (lo z.num.natAbs),.string (bg z.num.natAbs),.bool (z.num<0),.int .u64 (lo (z.den - 1)),.string (bg (z.den - 1))]),.int .i64 0]):=by
 have hn_a:wl a.num.natAbs≤8192:=Nat.le_trans (sz_num a) hs
 have hd_a:wl (a.den)≤8192:=Nat.le_trans (sz_den a) hs
 go_enter Tryz.func151,Tryz.ntmps151
 have I:=lh_ (hp0 w)
 refine kSl fun K O=>?_;go_wp2
 refine kF_ O (al2_ I) fun Wx0 J=>?_;clear O K
 clear I;have I:=J;clear J
 generalize w.heap.size+1=gx1 at *
 refine wp_seq ?_
 refine wp_block ?_
 have hd1:¬ ((((k:Nat):Int)) < -4096):=ok
 have hd2:¬ (4096<(((k:Nat):Int))):=ok
 refine ks7_ fun K O T Y=>?_
 iterate 7 refine tk ?_
 refine nz Y I O ?_;clear Y T I O K;intro vw1 I
 clear hd1 hd2
 refine wp_cond_false (by rfl) ?_
 have hd3:¬ ((((k:Nat):Int))<0):=ok
 have hd4:¬ (k<0):=by have e:=hd3;omega
 refine ks3_ fun K O T Y=>?_
 refine tk3_ ?_
 refine nz Y I O ?_;clear Y T I O K;intro vw2 I
 clear hd3 hd4
 refine wp_cond_false (by rfl) ?_
 refine wp_skip ?_
 show Code.wp _ _ _ _ _
 obtain ⟨u1,HZ1⟩:=ex_ (a.num.natAbs ^ k)
 have su1:wl u1≤8192:=by rw [← HZ1.out];exact wl_pow _ _ (HP1.out)
 have lx0:=kc0_ I
 refine qd4 fun K O T Y=>?_
 refine tk2_ ?_
 refine ck Tryz.call100 (fun w' hw=>qd9 (a.num) _) ?_
 refine tk ?_
 refine ck Tryz.call164 (fun w' hw=>qM_ a.num.natAbs k u1 _ HZ1.out om (HP1.out) om) ?_
 refine tk3_ ?_
 refine nlS Y I fun vw3 J=>?_
 clear Y T I lx0
 go_wp2
 refine kF_ O ((J.out).aL (vw3.heap.size)) fun Wx8 I=>?_;clear O K
 clear J
 generalize vw3.heap.size=gx3 at *
 have su2:wl (a.den)≤8192:=Nat.le_trans (sz_den _) om
 have sp2:0<(a).den:=(a).den_pos
 have HZ3:Hid ((a.den) ^ k=(z).den):=lh_ (by rw [← HZ.out];rfl)
 have su3:wl (z.den)≤8192:=by have e:=HZ3.out;first|omega|(rw [← e];exact wl_pow _ _ (HP2.out))
 have lx0:=kc0_ I
 refine ks7_ fun K O T Y=>?_
 refine tk ?_
 refine ck Tryz.call114 (fun w' hw=>qd3 a om _) ?_
 refine tk ?_
 refine ck Tryz.call164 (fun w' hw=>qM_ (a.den) k (z.den) _ HZ3.out om (HP2.out) om) ?_
 refine tk3_ ?_
 refine nlS Y I fun vw4 J=>?_
 clear Y T I lx0
 go_wp2
 refine kF_ O ((J.out).aL (vw4.heap.size)) fun Wx9 I=>?_;clear O K
 clear J
 generalize vw4.heap.size=gx4 at *
 refine wp_seq ?_
 refine qa2 fun K O T Y=>?_
 iterate 6 refine tk ?_
 refine nz Y I O ?_;clear Y T I O K;intro vw5 I
 refine wp_cond_false (by rfl) ?_
 refine wp_skip ?_
 show Code.wp _ _ _ _ _
 have hrem:Int.tmod ((k:Nat):Int) 2=0:=xr4 k HK.out
 have HZ4:Hid ((if false then -((u1:Nat):Int) else ((u1:Nat):Int))=(z).num):=lh_ (by rw [← HZ1.out];first|(rw [if_pos rfl];exact qq7 a z k HZ.out (qi9.2 ha) HK.out)|(rw [if_neg (by decide)];exact qq7 a z k HZ.out (qi9.2 ha) HK.out))
 have su4:wl z.num.natAbs≤8192:=by have e:=HZ4.out;first|omega|(rw [← e];split <;> simp <;> omega)
 have HZ5:Hid (mkRat (z.num) (z.den)=z):=lh_ (Rat.mkRat_self z)
 have su5:sz z≤8192:=by have e:=HZ5.out;first|omega|(rw [← e];exact qc3 (k:=8192) om om (by decide))
 have lx0:=kc0_ I
 have lx3:=kc2_ I
 have lx4:=kc3_ I
 refine kS fun K O=>?_
 refine xp5 fun T Y=>?_
 refine tk3_ ?_
 refine ck Tryz.call139 (fun w' hw=>fsign_any a (-1) _ xA_) ?_
 iterate 6 refine tk ?_
 refine ck Tryz.call37 (fun w' hw=>qa7 false u1 (z.num) _ HZ4.out) ?_
 refine ck Tryz.call102 (fun w' hw=>qd7 (z.num) (z.den) z _ (lh_ HZ5.out) (by exact z.den_pos) om om) ?_
 refine tk2_ ?_
 refine nlD Y I fun vw6 J=>?_
 clear Y T I lx0 lx3 lx4
 have lx1:=kc1_ J;have fx1:=kf1_ J
 have r0:=Gr.refl vw6
 go_wp2
 refine kO O ?_;clear O K
 clear r0 lx1 fx1
 refine fH (((((((J.out).put2 1 0 rfl).put2 1 2 rfl).put 1 4 _ rfl).er 3).er 2).er 0) fun Wx12 I=>?_
 clear J
 clear hrem
 refine wp_ret ?_
 try simp only [Exit.then,Exit.inBlock]
 have lx1:=kc0_ I
 have r0:=Gr.refl Wx12
 exact bR ⟨rfl,I.out.1⟩ qG7
theorem xn7 (a z:Rat) (k:Nat) (t:Int) (w:World) (HP1:Hid (k*nb a.num.natAbs≤262144)) (HP2:Hid (k*nb a.den≤262144)) (HZ:Hid (a ^ k=z)) (hk:k≤4096) (hs:sz a≤8192) (HA:Hid (0≤a.num)) (HT_:Hid (sgQ a=t)) (ht:¬ t<0) :
  CB 151 #[(Value.agg #[.int .u64 (lo a.num.natAbs),.string (bg a.num.natAbs),.bool (a.num<0),.int .u64 (lo (a.den - 1)),.string (bg (a.den - 1))]),.int .i64 (((k:Nat):Int))] w (.tuple #[(.agg #[.int .u64 (lo z.num.natAbs),.string (bg z.num.natAbs),.bool (z.num<0),.int .u64 (lo (z.den - 1)),.string (bg (z.den - 1))]),.int .i64 0]):=by
 have hn_a:wl a.num.natAbs≤8192:=Nat.le_trans (sz_num a) hs
 have hd_a:wl (a.den)≤8192:=Nat.le_trans (sz_den a) hs
 go_enter Tryz.func151,Tryz.ntmps151
 have I:=lh_ (hp0 w)
 refine kSl fun K O=>?_;go_wp2
 refine kF_ O (al2_ I) fun Wx0 J=>?_;clear O K
 clear I;have I:=J;clear J
 generalize w.heap.size+1=gx1 at *
 refine wp_seq ?_
 refine wp_block ?_
 have hd1:¬ ((((k:Nat):Int)) < -4096):=ok
 have hd2:¬ (4096<(((k:Nat):Int))):=ok
 refine ks7_ fun K O T Y=>?_
 iterate 7 refine tk ?_
 refine nz Y I O ?_;clear Y T I O K;intro vw1 I
 clear hd1 hd2
 refine wp_cond_false (by rfl) ?_
 have hd3:¬ ((((k:Nat):Int))<0):=ok
 have hd4:¬ (k<0):=by have e:=hd3;omega
 refine ks3_ fun K O T Y=>?_
 refine tk3_ ?_
 refine nz Y I O ?_;clear Y T I O K;intro vw2 I
 clear hd3 hd4
 refine wp_cond_false (by rfl) ?_
 refine wp_skip ?_
 show Code.wp _ _ _ _ _
 obtain ⟨u1,HZ1⟩:=ex_ (a.num.natAbs ^ k)
 have su1:wl u1≤8192:=by rw [← HZ1.out];exact wl_pow _ _ (HP1.out)
 have lx0:=kc0_ I
 refine qd4 fun K O T Y=>?_
 refine tk2_ ?_
 refine ck Tryz.call100 (fun w' hw=>qd9 (a.num) _) ?_
 refine tk ?_
 refine ck Tryz.call164 (fun w' hw=>qM_ a.num.natAbs k u1 _ HZ1.out om (HP1.out) om) ?_
 refine tk3_ ?_
 refine nlS Y I fun vw3 J=>?_
 clear Y T I lx0
 go_wp2
 refine kF_ O ((J.out).aL (vw3.heap.size)) fun Wx8 I=>?_;clear O K
 clear J
 generalize vw3.heap.size=gx3 at *
 have su2:wl (a.den)≤8192:=Nat.le_trans (sz_den _) om
 have sp2:0<(a).den:=(a).den_pos
 have HZ3:Hid ((a.den) ^ k=(z).den):=lh_ (by rw [← HZ.out];rfl)
 have su3:wl (z.den)≤8192:=by have e:=HZ3.out;first|omega|(rw [← e];exact wl_pow _ _ (HP2.out))
 have lx0:=kc0_ I
 refine ks7_ fun K O T Y=>?_
 refine tk ?_
 refine ck Tryz.call114 (fun w' hw=>qd3 a om _) ?_
 refine tk ?_
 refine ck Tryz.call164 (fun w' hw=>qM_ (a.den) k (z.den) _ HZ3.out om (HP2.out) om) ?_
 refine tk3_ ?_
 refine nlS Y I fun vw4 J=>?_
 clear Y T I lx0
 go_wp2
 refine kF_ O ((J.out).aL (vw4.heap.size)) fun Wx9 I=>?_;clear O K
 clear J
 generalize vw4.heap.size=gx4 at *
 refine wp_seq ?_
 refine qa2 fun K O T Y=>?_
 iterate 6 refine tk ?_
 refine nz Y I O ?_;clear Y T I O K;intro vw5 I
 refine wp_cond_false (by rfl) ?_
 refine wp_skip ?_
 show Code.wp _ _ _ _ _
 have hd5:¬ (t<0):=by first|exact ok|(simp only [← HZ1.out] <;> first|exact ok)
 have HZ4:Hid ((if false then -((u1:Nat):Int) else ((u1:Nat):Int))=(z).num):=lh_ (by rw [← HZ1.out];first|(rw [if_pos rfl];exact qt9 a z k HZ.out HA.out)|(rw [if_neg (by decide)];exact qt9 a z k HZ.out HA.out))
 have su4:wl z.num.natAbs≤8192:=by have e:=HZ4.out;first|omega|(rw [← e];split <;> simp <;> omega)
 have HZ5:Hid (mkRat (z.num) (z.den)=z):=lh_ (Rat.mkRat_self z)
 have su5:sz z≤8192:=by have e:=HZ5.out;first|omega|(rw [← e];exact qc3 (k:=8192) om om (by decide))
 have lx0:=kc0_ I
 have lx3:=kc2_ I
 have lx4:=kc3_ I
 refine kS fun K O=>?_
 refine xp5 fun T Y=>?_
 refine tk3_ ?_
 refine ck Tryz.call139 (fun w' hw=>fsign_any a t _ (HT_.out)) ?_
 refine tk2_ ?_
 iterate 3 refine sk ?_
 refine tk ?_
 refine ck Tryz.call37 (fun w' hw=>qa7 false u1 (z.num) _ HZ4.out) ?_
 refine ck Tryz.call102 (fun w' hw=>qd7 (z.num) (z.den) z _ (lh_ HZ5.out) (by exact z.den_pos) om om) ?_
 refine tk2_ ?_
 refine nlD Y I fun vw6 J=>?_
 clear Y T I lx0 lx3 lx4
 have lx1:=kc1_ J;have fx1:=kf1_ J
 have r0:=Gr.refl vw6
 go_wp2
 refine kO O ?_;clear O K
 clear r0 lx1 fx1
 refine fH (((((((J.out).put2 1 0 rfl).put2 1 2 rfl).put 1 4 _ rfl).er 3).er 2).er 0) fun Wx12 I=>?_
 clear J
 clear hd5
 refine wp_ret ?_
 try simp only [Exit.then,Exit.inBlock]
 have lx1:=kc0_ I
 have r0:=Gr.refl Wx12
 exact bR ⟨rfl,I.out.1⟩ qG7
theorem xn8 (a:Rat) (n:Int) (w:World) (hn:n<0) (hn2:-4096≤n) (HA0:Hid (a=0)) :
  CB 151 #[(Value.agg #[.int .u64 (lo a.num.natAbs),.string (bg a.num.natAbs),.bool (a.num<0),.int .u64 (lo (a.den - 1)),.string (bg (a.den - 1))]),.int .i64 n] w ((.tuple #[(.agg #[.int .u64 0,.string ⟨#[]⟩,.bool false,.int .u64 0,.string ⟨#[]⟩]),.int .i64 5])):=by
 go_enter Tryz.func151,Tryz.ntmps151
 have I:=lh_ (hp0 w)
 refine kSl fun K O=>?_;go_wp2
 refine kF_ O (al2_ I) fun Wx0 J=>?_;clear O K
 clear I;have I:=J;clear J
 generalize w.heap.size+1=gx1 at *
 refine wp_seq ?_
 refine wp_block ?_
 have hd1:¬ (n < -4096):=by first|exact ok|exact HA0.out
 have hd2:¬ (4096<n):=by first|exact ok|exact HA0.out
 refine ks7_ fun K O T Y=>?_
 iterate 7 refine tk ?_
 refine nz Y I O ?_;clear Y T I O K;intro vw1 I
 clear hd1 hd2
 refine wp_cond_false (by rfl) ?_
 have hd3:n<0:=by first|exact ok|exact HA0.out
 refine ks3_ fun K O T Y=>?_
 refine tk3_ ?_
 refine nz Y I O ?_;clear Y T I O K;intro vw2 I
 clear hd3
 refine wp_cond_true (by rfl) ?_
 have HZ1:Hid (((1:Int):Rat)=(1:Rat)):=lh_ (by decide +kernel)
 have su1:sz ((1:Rat))≤2:=sz_of (wl_le.2 (by decide +kernel)) (wl_le.2 (by decide +kernel))
 have lx0:=kc0_ I
 refine kS fun K O=>?_
 refine wp_region_plan 7 [6] [5] (fun _=>6) (fun _=>.cells #[.int .u64 0,.string ⟨#[]⟩,.bool false,.int .u64 0,.string ⟨#[]⟩] 36) [(true,1),(true,0),(true,2),(true,3),(true,4),(true,5)] (by kernel_rfl) (by kernel_rfl) qu_ qr6 (fun _ _ _ _ _ h=>h) (fun T Y=>?_)
 refine tk ?_
 refine ck Tryz.call147 (fun w' hw=>fint_any (1) (1:Rat) _ HZ1.out om om) ?_
 refine ck Tryz.call79 (fun w' hw=>qg_ (1:Rat) a _ (by first|exact ok|exact HA0.out)) ?_
 refine tk3_ ?_
 refine wpPlan_nil (Y.out _ _ ?_)
 intro G vw3 hg hf
 simp only [puts,Act.put,lA,lB,lC,lD,lE,↓reduceIte,Nat.reduceEqDiff]
 have J:=lh_ (I.out.fr hg hf (zs:=[(#[.int .u64 0,.string ⟨#[]⟩,.bool false,.int .u64 0,.string ⟨#[]⟩],36)]) rfl (by decide) (by decide))
 simp only [zq1_,zq2_,zq3_,zq4_,lF,lG] at J
 clear Y T I hg hf lx0
 generalize G 6=gx3 at *
 have lx3:=kc2_ J;have fx3:=kf2_ J
 have r0:=Gr.refl vw3
 go_wp2
 refine kO O ?_;clear O K
 clear r0 lx3 fx3
 refine fH ((((J.out).put2 2 0 rfl).put2 2 2 rfl).put 2 4 _ rfl) fun Wx4 I=>?_
 clear J
 refine wp_seq ?_
 refine ks2_ fun K O T Y=>?_
 refine tk2_ ?_
 refine nz Y I O ?_;clear Y T I O K;intro vw4 I
 refine wp_cond_true (by rfl) ?_
 refine ks2_ fun K O T Y=>?_
 refine tk2_ ?_
 refine nlS Y I fun vw5 J=>?_
 clear Y T I
 have lx1:=kc1_ J;have fx1:=kf1_ J
 have r0:=Gr.refl vw5
 go_wp2
 refine kO O ?_;clear O K
 clear r0 lx1 fx1
 refine fH ((((J.out).put2 1 0 rfl).put2 1 2 rfl).put 1 4 _ rfl) fun Wx6 I=>?_
 clear J
 refine wp_ret ?_
 try simp only [Exit.then,Exit.inBlock]
 have lx1:=kc1_ I
 have r0:=Gr.refl Wx6
 exact bodyPost_ret (v:=.tuple #[(.agg #[.int .u64 0,.string ⟨#[]⟩,.bool false,.int .u64 0,.string ⟨#[]⟩]),.int .i64 5]) qG7 rfl ⟨rfl,I.out.1⟩
theorem fpow_ok (a z:Rat) (k:Nat) (w:World) (hz:a ^ k=z) (hk:k≤4096) (h1:k*nb a.num.natAbs≤262144) (h2:k*nb a.den≤262144) (hs:sz a≤8192) :
  CB 151 #[(Value.agg #[.int .u64 (lo a.num.natAbs),.string (bg a.num.natAbs),.bool (a.num<0),.int .u64 (lo (a.den - 1)),.string (bg (a.den - 1))]),.int .i64 ((k:Nat):Int)] w (.tuple #[(Value.agg #[.int .u64 (lo z.num.natAbs),.string (bg z.num.natAbs),.bool (z.num<0),.int .u64 (lo (z.den - 1)),.string (bg (z.den - 1))]),.int .i64 0]):=by
 by_cases ha:a<0
 ·rcases Nat.mod_two_eq_zero_or_one k with h|h
  ·exact qT0 a z k w (lh_ h1) (lh_ h2) (lh_ hz) hk hs ha (lh_ h)
  exact xd8 a z k w (lh_ h1) (lh_ h2) (lh_ hz) hk hs ha (lh_ h)
 exact xn7 a z k _ w (lh_ h1) (lh_ h2) (lh_ hz) hk hs (lh_ (by have h9:¬ a.num<0:=fun e=>ha (qi9.1 e);omega)) (lh_ rfl) (xh5 ha)
theorem fpow_zero (a:Rat) (n:Int) (w:World) (hn:n<0) (hn2:-4096≤n) (ha:a=0) :
  CB 151 #[(Value.agg #[.int .u64 (lo a.num.natAbs),.string (bg a.num.natAbs),.bool (a.num<0),.int .u64 (lo (a.den - 1)),.string (bg (a.den - 1))]),.int .i64 n] w (.tuple #[(Value.agg #[.int .u64 (lo (Int.natAbs (((0:Rat)).num))),.string (bg (Int.natAbs (((0:Rat)).num))),.bool (decide ((((0:Rat)).num)<0)),.int .u64 (lo (((0:Rat)).den - 1)),.string (bg (((0:Rat)).den - 1))]),.int .i64 5]):=xn8 a n w hn hn2 (lh_ ha)
theorem qT1 (a r z:Rat) (n:Int) (j:Nat) (w:World) (HR:Hid (1 / a=r)) (HN:Hid (n = -((j:Nat):Int))) (hj0:0<j) (hj:j≤4096) (HA0:Hid (a≠0)) (HZ:Hid (r ^ j=z)) (HP1:Hid (j*nb r.num.natAbs≤262144)) (HP2:Hid (j*nb r.den≤262144)) (hsr:sz r≤8192) (hn1:n<0) (hn2:-4096≤n) (hs:sz a≤8192) :
  CB 151 #[(Value.agg #[.int .u64 (lo a.num.natAbs),.string (bg a.num.natAbs),.bool (a.num<0),.int .u64 (lo (a.den - 1)),.string (bg (a.den - 1))]),.int .i64 n] w (.tuple #[(.agg #[.int .u64 (lo z.num.natAbs),.string (bg z.num.natAbs),.bool (z.num<0),.int .u64 (lo (z.den - 1)),.string (bg (z.den - 1))]),.int .i64 0]):=by
 go_enter Tryz.func151,Tryz.ntmps151
 have I:=lh_ (hp0 w)
 refine kSl fun K O=>?_;go_wp2
 refine kF_ O (al2_ I) fun Wx0 J=>?_;clear O K
 clear I;have I:=J;clear J
 generalize w.heap.size+1=gx1 at *
 refine wp_seq ?_
 refine wp_block ?_
 have hd1:¬ (n < -4096):=by first|exact ok|exact HA0.out
 have hd2:¬ (4096<n):=by first|exact ok|exact HA0.out
 refine ks7_ fun K O T Y=>?_
 iterate 7 refine tk ?_
 refine nz Y I O ?_;clear Y T I O K;intro vw1 I
 clear hd1 hd2
 refine wp_cond_false (by rfl) ?_
 have hd3:n<0:=by first|exact ok|exact HA0.out
 refine ks3_ fun K O T Y=>?_
 refine tk3_ ?_
 refine nz Y I O ?_;clear Y T I O K;intro vw2 I
 clear hd3
 refine wp_cond_true (by rfl) ?_
 have HZ1:Hid (((1:Int):Rat)=(1:Rat)):=lh_ (by decide +kernel)
 have su1:sz ((1:Rat))≤2:=sz_of (wl_le.2 (by decide +kernel)) (wl_le.2 (by decide +kernel))
 have HZ2:Hid ((1:Rat) / a=r):=lh_ (HR.out)
 have su2:sz r≤8192:=by have e:=HZ2.out;first|omega|(rw [← e];have:=sz_div (1:Rat) a;omega)
 have lx0:=kc0_ I
 refine kS fun K O=>?_
 refine wp_region_plan 7 [6] [5] (fun _=>6) (fun _=>.cells #[.int .u64 0,.string ⟨#[]⟩,.bool false,.int .u64 0,.string ⟨#[]⟩] 36) [(true,1),(true,0),(true,2),(true,3),(true,4),(true,5)] (by kernel_rfl) (by kernel_rfl) qu_ qr6 (fun _ _ _ _ _ h=>h) (fun T Y=>?_)
 refine tk ?_
 refine ck Tryz.call147 (fun w' hw=>fint_any (1) (1:Rat) _ HZ1.out om om) ?_
 refine ck Tryz.call79 (fun w' hw=>fdiv_any (1:Rat) a r _ HZ2.out (by first|exact ok|exact HA0.out) om om) ?_
 refine tk3_ ?_
 refine wpPlan_nil (Y.out _ _ ?_)
 intro G vw3 hg hf
 simp only [puts,Act.put,lA,lB,lC,lD,lE,↓reduceIte,Nat.reduceEqDiff]
 have J:=lh_ (I.out.fr hg hf (zs:=[(#[.int .u64 0,.string ⟨#[]⟩,.bool false,.int .u64 0,.string ⟨#[]⟩],36)]) rfl (by decide) (by decide))
 simp only [zq1_,zq2_,zq3_,zq4_,lF,lG] at J
 clear Y T I hg hf lx0
 generalize G 6=gx3 at *
 have lx3:=kc2_ J;have fx3:=kf2_ J
 have r0:=Gr.refl vw3
 go_wp2
 refine kO O ?_;clear O K
 clear r0 lx3 fx3
 refine fH ((((J.out).put2 2 0 rfl).put2 2 2 rfl).put 2 4 _ rfl) fun Wx4 I=>?_
 clear J
 refine wp_seq ?_
 refine ks2_ fun K O T Y=>?_
 refine tk2_ ?_
 refine nz Y I O ?_;clear Y T I O K;intro vw4 I
 refine wp_cond_false (by rfl) ?_
 refine wp_skip ?_
 show Code.wp _ _ _ _ _
 have hng:IntKind.i64.wrap (-n)=((j:Nat):Int):=by rw [HN.out,Int.neg_neg,IntKind.wrap_i64];omega
 have lx3:=kc2_ I
 refine qa2 fun K O T Y=>?_
 refine tk2_ ?_
 refine wpPlan_takeL (v:=?_) rfl (by rfl) (fun w' hw=>?_) ?_
 rotate_left
 ·go_simp
  first|(simp only [hng];with_reducible rfl)|with_reducible rfl
 simp only [Act.put,lA,lB,lC]
 refine ck Tryz.call151 (fun w' hw=>fpow_ok r z j _ (HZ.out) om HP1.out HP2.out om) ?_
 refine tk2_ ?_
 refine nlS Y I fun vw5 J=>?_
 clear Y T I lx3
 have lx1:=kc1_ J;have fx1:=kf1_ J
 have r0:=Gr.refl vw5
 go_wp2
 refine kO O ?_;clear O K
 clear r0 lx1 fx1
 refine fH (((((J.out).put2 1 0 rfl).put2 1 2 rfl).put 1 4 _ rfl).er 2) fun Wx7 I=>?_
 clear J
 clear hng
 refine wp_ret ?_
 try simp only [Exit.then,Exit.inBlock]
 have lx1:=kc1_ I
 have r0:=Gr.refl Wx7
 exact bR ⟨rfl,I.out.1⟩ qG7
theorem fpow_neg (a z:Rat) (j:Nat) (w:World) (hz:(1 / a) ^ j=z) (hj0:0<j) (hj:j≤4096) (ha:a≠0) (h1:j*nb a.num.natAbs≤262144) (h2:j*nb a.den≤262144) (hs:sz a≤8192) :
  CB 151 #[(Value.agg #[.int .u64 (lo a.num.natAbs),.string (bg a.num.natAbs),.bool (a.num<0),.int .u64 (lo (a.den - 1)),.string (bg (a.den - 1))]),.int .i64 (-((j:Nat):Int))] w (.tuple #[(Value.agg #[.int .u64 (lo z.num.natAbs),.string (bg z.num.natAbs),.bool (z.num<0),.int .u64 (lo (z.den - 1)),.string (bg (z.den - 1))]),.int .i64 0]):=by
 have hn:a.num≠0:=fun e=>ha (num_zero.1 e)
 obtain ⟨i1,i2⟩:=inv_sz a
 rw [if_neg hn] at i1 i2
 exact qT1 a _ z _ j w (lh_ rfl) (lh_ rfl) hj0 hj (lh_ ha) (lh_ hz) (lh_ (by rw [i1];exact h2)) (lh_ (by rw [i2];exact h1)) (qN0 a hs) om om hs
end
section
open Go.RowKit
attribute [local go_sem ↓] Go.wp_at_zero Go.wp_at_succ
attribute [local go_sem ↓] eq_nat eq_nat_zero eq_int
theorem qx3 (c:Int) (r:Bool) (w:World) (HR:Hid (decide (0<c)=r)) :
  CB 228 #[.int .i64 c] w ((.bool r)):=by
 go_enter Tryz.func228,Tryz.ntmps228
 have I:=lh_ (hp0 w)
 refine kSl fun K O=>?_;go_wp2
 refine kF_ O (I.out) fun Wx0 J=>?_;clear O K
 clear I;have I:=J;clear J
 have hdr:decide (0<c)=r:=HR.out
 refine ks3_ fun K O T Y=>?_
 refine tk3_ ?_
 refine nz Y I O ?_;clear Y T I O K;intro vw1 I
 clear hdr
 refine wp_ret ?_
 try simp only [Exit.then,Exit.inBlock]
 exact bR ⟨rfl,I.out.1⟩ (by simp [results,Tryz.results228,go_sem])
theorem xm4  (w:World)   :
  CB 229 #[.agg #[.func (.func 228) #[] #[]],.slice none 0 0] w ((.agg #[.int .u64 0,.string ⟨#[]⟩,.bool false,.int .u64 0,.string ⟨#[]⟩])):=by
 go_enter Tryz.func229,Tryz.ntmps229
 have I:=lh_ (hp0 w)
 refine kSl fun K O=>?_;go_wp2
 refine kF_ O (al2_ I) fun Wx0 J=>?_;clear O K
 clear I;have I:=J;clear J
 generalize w.heap.size+1=gx1 at *
 refine wp_seq ?_
 refine ks3_ fun K O T Y=>?_
 refine tk3_ ?_
 refine nz Y I O ?_;clear Y T I O K;intro vw1 I
 refine wp_block ?_
 refine wp_loop_rounds 12 ?_
 rw [rounds_succ]
 refine ks1_ fun K O T Y=>?_
 refine tk ?_
 refine nz Y I O ?_;clear Y T I O K;intro vw2 I
 refine wp_seq ?_
 refine wp_cond_false (by rfl) ?_
 refine wp_exit ?_
 show Code.wp _ _ _ _ _
 have lx1:=kc1_ I
 refine ks1_ fun K O T Y=>?_
 refine tk ?_
 refine nlS Y I fun vw3 J=>?_
 clear Y T I lx1
 have lx1:=kc1_ J;have fx1:=kf1_ J
 have r0:=Gr.refl vw3
 go_wp2
 refine kO O ?_;clear O K
 clear r0 lx1 fx1
 refine fH (((((J.out).put2 1 0 rfl).put2 1 2 rfl).put 1 4 _ rfl).er 0) fun Wx7 I=>?_
 clear J
 refine wp_ret ?_
 try simp only [Exit.then,Exit.inBlock]
 have lx1:=kc0_ I
 have r0:=Gr.refl Wx7
 exact bodyPost_ret (v:=.agg #[.int .u64 0,.string ⟨#[]⟩,.bool false,.int .u64 0,.string ⟨#[]⟩]) (by simp [results,Tryz.results229,go_sem,lx1 _ r0]) rfl ⟨rfl,I.out.1⟩
theorem xm5 (a b:Rat) (c:Int) (g:Nat) (w:World) (bx9:Bx w g 36 #[.int .u64 (lo a.num.natAbs),.string (bg a.num.natAbs),.bool (a.num<0),.int .u64 (lo (a.den - 1)),.string (bg (a.den - 1)),.int .u64 (lo b.num.natAbs),.string (bg b.num.natAbs),.bool (b.num<0),.int .u64 (lo (b.den - 1)),.string (bg (b.den - 1))]) (HC:Hid (sgQ (b - a)=c)) (hc:0<c) (hsa:sz a≤1000) (hsb:sz b≤1000) :
  CB 229 #[.agg #[.func (.func 228) #[] #[]],.slice (some ⟨g,0,none⟩) 2 2] w (.agg #[.int .u64 (lo b.num.natAbs),.string (bg b.num.natAbs),.bool (b.num<0),.int .u64 (lo (b.den - 1)),.string (bg (b.den - 1))]):=by
 have hw1:IntKind.i64.wrap 1=1:=by decide
 have hw2:IntKind.i64.wrap 2=2:=by decide
 go_enter Tryz.func229,Tryz.ntmps229
 have I:=lh_ (hp0 w)
 have BX9:=lh_ bx9;clear bx9
 refine kSl fun K O=>?_;go_wp2
 refine kF_ O (al2_ I) fun Wx0 J=>?_;clear O K
 clear I;have I:=J;clear J
 generalize w.heap.size+1=gx11 at *
 refine wp_seq ?_
 refine ks3_ fun K O T Y=>?_
 refine tk3_ ?_
 refine nz Y I O ?_;clear Y T I O K;intro vw1 I
 refine wp_block ?_
 refine wp_loop_rounds 12 ?_
 rw [rounds_succ]
 refine ks1_ fun K O T Y=>?_
 refine tk ?_
 refine nz Y I O ?_;clear Y T I O K;intro vw2 I
 refine wp_seq ?_
 refine wp_cond_true (by rfl) ?_
 refine wp_skip ?_
 show Code.wp _ _ _ _ _
 refine wp_seq ?_
 refine wp_block ?_
 have lx9:=(BX9.out.gr I.out.1).cells
 refine ks3_ fun K O T Y=>?_
 refine tk3_ ?_
 refine nlS Y I fun vw3 J=>?_
 clear Y T I lx9
 go_wp2
 refine kF_ O ((J.out).aL (vw3.heap.size)) fun Wx3 I=>?_;clear O K
 clear J
 generalize vw3.heap.size=gx13 at *
 have lx11:=kc1_ I
 have lx13:=kc2_ I
 refine kS fun K O=>?_
 refine pd0_ fun T Y=>?_
 refine tk3_ ?_
 iterate 6 refine sk ?_
 refine nlD Y I fun vw4 J=>?_
 clear Y T I lx11 lx13
 go_wp2
 refine kO O ?_;clear O K
 have I:=J;clear J
 refine wp_cond_true (by rfl) ?_
 have lx13:=kc2_ I
 refine kL fun K O=>?_
 refine sq1_ fun T Y=>?_
 refine tk ?_
 refine nlS Y I fun vw5 J=>?_
 clear Y T I lx13
 have lx11:=kc1_ J;have fx11:=kf1_ J
 have r0:=Gr.refl vw5
 go_wp2
 refine kO O ?_;clear O K
 clear r0 lx11 fx11
 refine fH ((((J.out).put2 1 0 rfl).put2 1 2 rfl).put 1 4 _ rfl) fun Wx5 I=>?_
 clear J
 refine kL fun K O=>?_
 refine sq2_ fun T Y=>?_
 refine tk2_ ?_
 refine nlS Y I fun vw6 J=>?_
 clear Y T I
 go_wp2
 refine O.out _ _ ?_;clear O K
 show Code.rounds _ _ _ _ _ _
 rw [rounds_succ]
 have I:=J;clear J
 refine ks1_ fun K O T Y=>?_
 refine tk ?_
 refine nz Y I O ?_;clear Y T I O K;intro vw7 I
 refine wp_seq ?_
 refine wp_cond_true (by rfl) ?_
 refine wp_skip ?_
 show Code.wp _ _ _ _ _
 refine wp_seq ?_
 refine wp_block ?_
 have lx9:=(BX9.out.gr I.out.1).cells
 refine ks3_ fun K O T Y=>?_
 refine tk3_ ?_
 refine nlS Y I fun vw8 J=>?_
 clear Y T I lx9
 go_wp2
 refine kF_ O (((J.out).aL (vw8.heap.size)).er 2) fun Wx3 I=>?_;clear O K
 clear J
 generalize vw8.heap.size=gx14 at *
 have lx10:=kc0_ I
 have lx11:=kc1_ I
 have lx14:=kc2_ I
 refine kS fun K O=>?_
 refine pd0_ fun T Y=>?_
 iterate 7 refine tk ?_
 refine ck Tryz.call140 (fun w' hw=>qa3 b a c _ (HC.out) om om) ?_
 refine qg1 rfl (by rfl) (by rfl) Tryz.call228 (fun w' hw=>qx3 c true _ (lh_ (decide_eq_true ok))) (by rfl) ?_
 simp only [Act.put,lA,lB,lC]
 refine nlD Y I fun vw9 J=>?_
 clear Y T I lx10 lx11 lx14
 go_wp2
 refine kO O ?_;clear O K
 have I:=J;clear J
 refine wp_cond_true (by rfl) ?_
 have lx14:=kc2_ I
 refine kL fun K O=>?_
 refine sq1_ fun T Y=>?_
 refine tk ?_
 refine nlS Y I fun vw10 J=>?_
 clear Y T I lx14
 have lx11:=kc1_ J;have fx11:=kf1_ J
 have r0:=Gr.refl vw10
 go_wp2
 refine kO O ?_;clear O K
 clear r0 lx11 fx11
 refine fH ((((J.out).put2 1 0 rfl).put2 1 2 rfl).put 1 4 _ rfl) fun Wx5 I=>?_
 clear J
 refine kL fun K O=>?_
 refine sq2_ fun T Y=>?_
 refine tk2_ ?_
 refine nlS Y I fun vw11 J=>?_
 clear Y T I
 go_wp2
 refine O.out _ _ ?_;clear O K
 show Code.rounds _ _ _ _ _ _
 rw [rounds_succ]
 have I:=J;clear J
 refine ks1_ fun K O T Y=>?_
 refine tk ?_
 refine nz Y I O ?_;clear Y T I O K;intro vw12 I
 refine wp_seq ?_
 refine wp_cond_false (by rfl) ?_
 refine wp_exit ?_
 show Code.wp _ _ _ _ _
 have lx11:=kc1_ I
 refine ks1_ fun K O T Y=>?_
 refine tk ?_
 refine nlS Y I fun vw13 J=>?_
 clear Y T I lx11
 have lx11:=kc1_ J;have fx11:=kf1_ J
 have r0:=Gr.refl vw13
 go_wp2
 refine kO O ?_;clear O K
 clear r0 lx11 fx11
 refine fH ((((((J.out).put2 1 0 rfl).put2 1 2 rfl).put 1 4 _ rfl).er 2).er 0) fun Wx7 I=>?_
 clear J
 refine wp_ret ?_
 try simp only [Exit.then,Exit.inBlock]
 have lx11:=kc0_ I
 have r0:=Gr.refl Wx7
 exact bR ⟨rfl,I.out.1⟩ (by simp [results,Tryz.results229,go_sem,lx11 _ r0])
theorem qS2  (w:World)   :
  CB 155 #[.slice none 0 0] w ((.agg #[.int .u64 0,.string ⟨#[]⟩,.bool false,.int .u64 0,.string ⟨#[]⟩])):=by
 go_enter Tryz.func155,Tryz.ntmps155
 have I:=lh_ (hp0 w)
 refine kSl fun K O=>?_;go_wp2
 refine kF_ O (al1_ I) fun Wx0 J=>?_;clear O K
 clear I;have I:=J;clear J
 refine ks3_ fun K O T Y=>?_
 refine tk2_ ?_
 refine ck Tryz.call229 (fun w' hw=>xm4 _) ?_
 refine nlS Y I fun vw1 J=>?_
 clear Y T I
 have lx0:=kc0_ J;have fx0:=kf0_ J
 have r0:=Gr.refl vw1
 go_wp2
 refine kO O ?_;clear O K
 clear r0 lx0 fx0
 refine fH ((((J.out).put2 0 0 rfl).put2 0 2 rfl).put 0 4 _ rfl) fun Wx1 I=>?_
 clear J
 refine wp_ret ?_
 try simp only [Exit.then,Exit.inBlock]
 have lx0:=kc0_ I
 have r0:=Gr.refl Wx1
 exact bodyPost_ret (v:=.agg #[.int .u64 0,.string ⟨#[]⟩,.bool false,.int .u64 0,.string ⟨#[]⟩]) (by simp [results,Tryz.results155,go_sem,lx0 _ r0]) rfl ⟨rfl,I.out.1⟩
theorem qS4 (a b:Rat) (c:Int) (g:Nat) (w:World) (bx9:Bx w g 36 #[.int .u64 (lo a.num.natAbs),.string (bg a.num.natAbs),.bool (a.num<0),.int .u64 (lo (a.den - 1)),.string (bg (a.den - 1)),.int .u64 (lo b.num.natAbs),.string (bg b.num.natAbs),.bool (b.num<0),.int .u64 (lo (b.den - 1)),.string (bg (b.den - 1))]) (HC:Hid (sgQ (b - a)=c)) (hc:0<c) (hsa:sz a≤1000) (hsb:sz b≤1000) :
  CB 155 #[.slice (some ⟨g,0,none⟩) 2 2] w (.agg #[.int .u64 (lo b.num.natAbs),.string (bg b.num.natAbs),.bool (b.num<0),.int .u64 (lo (b.den - 1)),.string (bg (b.den - 1))]):=by
 go_enter Tryz.func155,Tryz.ntmps155
 have I:=lh_ (hp0 w)
 have BX9:=lh_ bx9;clear bx9
 refine kSl fun K O=>?_;go_wp2
 refine kF_ O (al1_ I) fun Wx0 J=>?_;clear O K
 clear I;have I:=J;clear J
 have HB:=HPb I
 refine ks3_ fun K O T Y=>?_
 refine tk2_ ?_
 refine ck Tryz.call229 (fun w' hw=>xm5 a b c g _ (BX9.out.gr (Gr.trans HB.out hw)) HC om hsa hsb) ?_
 refine nlS Y I fun vw1 J=>?_
 clear Y T I HB
 have lx10:=kc0_ J;have fx10:=kf0_ J
 have r0:=Gr.refl vw1
 go_wp2
 refine kO O ?_;clear O K
 clear r0 lx10 fx10
 refine fH ((((J.out).put2 0 0 rfl).put2 0 2 rfl).put 0 4 _ rfl) fun Wx1 I=>?_
 clear J
 refine wp_ret ?_
 try simp only [Exit.then,Exit.inBlock]
 have lx10:=kc0_ I
 have r0:=Gr.refl Wx1
 exact bR ⟨rfl,I.out.1⟩ (by simp [results,Tryz.results155,go_sem,lx10 _ r0])
theorem xn3 (w:World) :
  CB 155 #[.slice none 0 0] w (Value.agg #[.int .u64 (lo (Int.natAbs (((0:Rat)).num))),.string (bg (Int.natAbs (((0:Rat)).num))),.bool (decide ((((0:Rat)).num)<0)),.int .u64 (lo (((0:Rat)).den - 1)),.string (bg (((0:Rat)).den - 1))]):=qS2 w
end
end Go.Proofs.YtobojnodohjiaaaGreatDoor
