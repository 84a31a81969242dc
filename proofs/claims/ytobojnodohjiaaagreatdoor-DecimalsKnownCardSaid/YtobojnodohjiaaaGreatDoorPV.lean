/- A pack of texts: Frac4, FPow, FMax2. No condition but those stated. -/
import Derived.Test.YtobojnodohjiaaaGreatDoorPL
import Derived.Test.YtobojnodohjiaaaGreatDoorIntDiv
import Derived.Test.YtobojnodohjiaaaGreatDoorHp
import Derived.Test.YtobojnodohjiaaaGreatDoorPJ
set_option maxRecDepth 100000
set_option maxHeartbeats 16000000
set_option linter.unusedVariables false
set_option linter.unusedSimpArgs false
namespace Go.Proofs.YtobojnodohjiaaaGreatDoor
section
open Go.RowKit
attribute [local go_sem ↓] Go.wp_at_zero Go.wp_at_succ
attribute [local go_sem ↓] eq_nat eq_nat_zero eq_int
theorem qi_ (n:Int) (d:Nat) (z:Rat) (w:World) (HZ:Hid (mkRat n d=z)) (hd:0<d) (hn9:wl n.natAbs≤100000000000) (hd9:wl d≤100000000000) :
  CB 102 #[(Value.agg #[.int .u64 (lo n.natAbs),.string (bg n.natAbs),.bool (n<0)]),.agg #[.int .u64 (lo d),.string (bg d)]] w (.tuple #[(.agg #[.int .u64 (lo z.num.natAbs),.string (bg z.num.natAbs),.bool (z.num<0),.int .u64 (lo (z.den - 1)),.string (bg (z.den - 1))]),.int .i64 0]):=by
 go_enter Tryz.func102,Tryz.ntmps102
 have I:=lh_ (hp0 w)
 refine kSl fun K O=>?_;go_wp2
 refine kF_ O (al3_ I) fun Wx0 J=>?_;clear O K
 clear I;have I:=J;clear J
 generalize w.heap.size+1+1=gx2 at *
 generalize w.heap.size+1=gx1 at *
 refine wp_seq ?_
 have hd1:decide (d=0)=false:=decide_eq_false ok
 have lx1:=kc1_ I
 refine ks3_ fun K O T Y=>?_
 refine tk3_ ?_
 refine nz Y I O ?_;clear Y T I lx1 O K;intro vw1 I
 clear hd1
 refine csk ?_
 have HZ1:Hid (mkRat n d=z):=lh_ (HZ.out)
 have su1:sz z≤100000000000:=by have e:=HZ1.out;first|omega|(rw [← e];exact qe1 (k:=100000000000) om om (by decide))
 have lx0:=kc0_ I
 have lx1:=kc1_ I
 refine ks3_ fun K O T Y=>?_
 refine tk2_ ?_
 refine ck Tryz.call189 (fun w' hw=>qg2 n d z HZ1 ok om om _) ?_
 refine nlS Y I fun vw2 J=>?_
 clear Y T I lx0 lx1
 have lx2:=kc2_ J;have fx2:=kf2_ J
 have r0:=Gr.refl vw2
 go_wp2
 refine kO O ?_;clear O K
 clear r0 lx2 fx2
 refine fH ((((((J.out).put2 2 0 rfl).put2 2 2 rfl).put 2 4 _ rfl).er 1).er 0) fun Wx3 I=>?_
 clear J
 refine wp_ret ?_
 try simp only [Exit.then,Exit.inBlock]
 have lx2:=kc0_ I
 have r0:=Gr.refl Wx3
 exact bR ⟨rfl,I.out.1⟩ (by simp [results,Tryz.results102,go_sem,lx2 _ r0])
theorem qA9 (q:Rat) (w:World) (hs:sz q≤100000000000) :
  CB 38 #[(Value.agg #[.int .u64 (lo q.num.natAbs),.string (bg q.num.natAbs),.bool (q.num<0),.int .u64 (lo (q.den - 1)),.string (bg (q.den - 1))])] w (((Value.agg #[.int .u64 (lo (q.den)),.string (bg (q.den))]))):=by
 go_enter Tryz.func38,Tryz.ntmps38
 have I:=lh_ (hp0 w)
 refine kSl fun K O=>?_;go_wp2
 refine kF_ O (al2_ I) fun Wx0 J=>?_;clear O K
 clear I;have I:=J;clear J
 generalize w.heap.size+1=gx1 at *
 have su1:wl (q.den)≤100000000000:=Nat.le_trans (qb7 _) om
 have sp1:0<(q).den:=(q).den_pos
 have lx0:=kc0_ I
 refine ks2_ fun K O T Y=>?_
 refine tk ?_
 refine ck Tryz.call114 (fun w' hw=>qd6 q om _) ?_
 refine nlS Y I fun vw1 J=>?_
 clear Y T I lx0
 have lx1:=kc1_ J;have fx1:=kf1_ J
 have r0:=Gr.refl vw1
 go_wp2
 refine kO O ?_;clear O K
 clear r0 lx1 fx1
 refine fH (((J.out).put2 1 0 rfl).er 0) fun Wx1 I=>?_
 clear J
 refine wp_ret ?_
 try simp only [Exit.then,Exit.inBlock]
 have lx1:=kc0_ I
 have r0:=Gr.refl Wx1
 exact bR ⟨rfl,I.out.1⟩ (by simp [results,Tryz.results38,go_sem,lx1 _ r0])
def qabs (q:Rat):Rat:=if q<0 then -q else q
theorem xn6 (q:Rat):(qabs q).den=q.den:=by unfold qabs;split <;> rfl
theorem xn7 (q:Rat):(if false then -((Int.natAbs (q.num):Nat):Int) else ((Int.natAbs (q.num):Nat):Int))=(qabs q).num:=by
 rw [if_neg (by decide)]
 unfold qabs
 split
 ·rename_i h
  have:=ql1.2 h
  rw [Rat.neg_num];omega
 rename_i h
 have:¬ q.num<0:=fun e=>h (ql1.1 e)
 omega
theorem qx8 (q:Rat):sz (qabs q)=sz q:=by unfold qabs;split;rw [qg7];rfl
theorem xk5 (q r:Rat) (w:World) (HR:Hid (qabs q=r)) :
  CB 137 #[(Value.agg #[.int .u64 (lo q.num.natAbs),.string (bg q.num.natAbs),.bool (q.num<0),.int .u64 (lo (q.den - 1)),.string (bg (q.den - 1))])] w ((.agg #[.int .u64 (lo r.num.natAbs),.string (bg r.num.natAbs),.bool (r.num<0),.int .u64 (lo (q.den - 1)),.string (bg (q.den - 1))])):=by
 go_enter Tryz.func137,Tryz.ntmps137
 have I:=lh_ (hp0 w)
 refine kSl fun K O=>?_;go_wp2
 refine kF_ O (al2_ I) fun Wx0 J=>?_;clear O K
 clear I;have I:=J;clear J
 generalize w.heap.size+1=gx1 at *
 have HZ1:Hid ((if false then -((Int.natAbs (q.num):Nat):Int) else ((Int.natAbs (q.num):Nat):Int))=(r).num):=lh_ (by rw [← HR.out];exact xn7 q)
 have lx0:=kc0_ I
 refine kS fun K O=>?_
 refine xQ8 fun T Y=>?_
 iterate 4 refine tk ?_
 refine ck Tryz.call100 (fun w' hw=>qk7 (q.num) _) ?_
 refine ck Tryz.call37 (fun w' hw=>qa8 false q.num.natAbs (r.num) _ HZ1.out) ?_
 refine tk ?_
 refine nlD Y I fun vw1 J=>?_
 clear Y T I lx0
 have lx1:=kc1_ J;have fx1:=kf1_ J
 have r0:=Gr.refl vw1
 go_wp2
 refine kO O ?_;clear O K
 clear r0 lx1 fx1
 refine fH (((((J.out).put2 1 0 rfl).put2 1 2 rfl).put 1 4 _ rfl).er 0) fun Wx1 I=>?_
 clear J
 refine wp_ret ?_
 try simp only [Exit.then,Exit.inBlock]
 have lx1:=kc0_ I
 have r0:=Gr.refl Wx1
 exact bR ⟨rfl,I.out.1⟩ (by simp [results,Tryz.results137,go_sem,lx1 _ r0])
theorem qp5 (q r:Rat) (w:World) (hr:qabs q=r) :
  CB 137 #[(Value.agg #[.int .u64 (lo q.num.natAbs),.string (bg q.num.natAbs),.bool (q.num<0),.int .u64 (lo (q.den - 1)),.string (bg (q.den - 1))])] w (Value.agg #[.int .u64 (lo r.num.natAbs),.string (bg r.num.natAbs),.bool (r.num<0),.int .u64 (lo (r.den - 1)),.string (bg (r.den - 1))]):=by
 have e:q.den=r.den:=by rw [← hr,xn6]
 refine (xk5 q r w (lh_ hr)).mono ?_
 rintro _ w' ⟨rfl,hb⟩
 exact ⟨by rw [e],hb⟩
theorem qg4 (q:Rat):wl (Int.natAbs (q.floor))≤sz q+1:=by
 rw [Rat.floor_def]
 exact Nat.le_trans (qs5 _ _) (by have:=qc4 q;omega)
theorem qz_ (q:Rat):-((-q).floor)=q.ceil:=(Rat.ceil_eq_neg_floor_neg q).symm
theorem qD3 (q:Rat):wl (Int.natAbs (q.ceil))≤sz q+1:=by
 rw [← qz_,Int.natAbs_neg,← qg7 q]
 exact qg4 (-q)
theorem qf2 (q:Rat) (z:Int) (w:World) (HZ:Hid (q.floor=z)) (hs:sz q≤10000000000) :
  CB 142 #[(Value.agg #[.int .u64 (lo q.num.natAbs),.string (bg q.num.natAbs),.bool (q.num<0),.int .u64 (lo (q.den - 1)),.string (bg (q.den - 1))])] w (.agg #[.int .u64 (lo z.natAbs),.string (bg z.natAbs),.bool (z<0)]):=by
 have hn_q:wl q.num.natAbs≤10000000000:=Nat.le_trans (qc4 q) hs
 have hp_q:=q.den_pos
 go_enter Tryz.func142,Tryz.ntmps142
 have I:=lh_ (hp0 w)
 refine kSl fun K O=>?_;go_wp2
 refine kF_ O (al2_ I) fun Wx0 J=>?_;clear O K
 clear I;have I:=J;clear J
 generalize w.heap.size+1=gx1 at *
 obtain ⟨u1,HZ1⟩:=ex_ ((q.den:Int))
 have su1:wl u1.natAbs≤10000000000:=by rw [← HZ1.out];rw [Int.natAbs_natCast];exact Nat.le_trans (qb7 _) om
 have HZ2:Hid ((q.num) / u1=z):=lh_ (by rw [← HZ.out,Rat.floor_def];simp only [← HZ1.out])
 have su2:wl z.natAbs≤10000000001:=by have e:=HZ2.out;first|omega|(rw [← e];have:=qs5 (q.num) u1;omega)
 obtain ⟨u3,HZ3⟩:=ex_ ((q.num) % u1)
 have su3:wl u3.natAbs≤10000000000:=by rw [← HZ3.out];have:=qx_ (q.num) u1 (by simp only [← HZ1.out];omega);omega
 have lx0:=kc0_ I
 refine kS fun K O=>?_
 refine qa1 11 [9,10] [7,8] (fun i=>if i=9 then 3 else 4) (fun i=>if i=9 then .cells #[.int .u64 0,.string ⟨#[]⟩,.bool false] 34 else .cells #[.int .u64 0,.string ⟨#[]⟩,.bool false] 34) [(true,0),(true,1),(true,2),(true,3),(true,4),(true,5),(true,6),(true,7),(true,8)] (by kernel_rfl) (by kernel_rfl) zb1_ qV8 (fun _ _ _ _ _ h=>h) (fun T Y=>?_)
 refine tk3_ ?_
 refine ck Tryz.call213 (fun w' hw=>qf1 q u1 _ HZ1.out om) ?_
 refine ck Tryz.call42 (fun w' hw=>xh9 (q.num) u1 z u3 _ HZ2.out HZ3.out (by simp only [← HZ3.out,← HZ1.out];omega) om om) ?_
 iterate 4 refine tk ?_
 refine qa0 (Y.out _ _ ?_)
 intro G vw1 hg hf
 simp only [puts,Act.put,lA,lB,lC,lD,lE,↓reduceIte,Nat.reduceEqDiff]
 have J:=lh_ (I.out.fr hg hf (zs:=[(#[.int .u64 0,.string ⟨#[]⟩,.bool false],34),(#[.int .u64 0,.string ⟨#[]⟩,.bool false],34)]) rfl (by decide) (by decide))
 simp only [zq1_,zq2_,zq3_,zq4_,lF,lG] at J
 clear Y T I hg hf lx0
 generalize G 9=gx3 at *
 generalize G 10=gx4 at *
 have lx3:=kc2_ J;have fx3:=kf2_ J
 have lx4:=kc3_ J;have fx4:=kf3_ J
 have r0:=Gr.refl vw1
 obtain ⟨d3_4,d4_3⟩:=J.out.ne 2 3 rfl rfl (by decide)
 go_wp2
 refine kO O ?_;clear O K
 clear r0 lx3 fx3 lx4 fx4 d3_4 d4_3
 refine fH (((((((J.out).put2 2 0 rfl).put 2 2 _ rfl).put2 3 0 rfl).put 3 2 _ rfl).er 3).er 0) fun Wx1 I=>?_
 clear J
 have lx3:=kc1_ I
 refine ks1_ fun K O T Y=>?_
 refine tk ?_
 refine nlS Y I fun vw2 J=>?_
 clear Y T I lx3
 have lx1:=kc0_ J;have fx1:=kf0_ J
 have r0:=Gr.refl vw2
 go_wp2
 refine kO O ?_;clear O K
 clear r0 lx1 fx1
 refine fH ((((J.out).put2 0 0 rfl).put 0 2 _ rfl).er 1) fun Wx2 I=>?_
 clear J
 refine wp_ret ?_
 try simp only [Exit.then,Exit.inBlock]
 have lx1:=kc0_ I
 have r0:=Gr.refl Wx2
 exact bR ⟨rfl,I.out.1⟩ (by simp [results,Tryz.results142,go_sem,lx1 _ r0])
theorem qw2 (q:Rat) (z:Int) (w:World) (HZ:Hid (q.ceil=z)) (hs:sz q≤10000000000) :
  CB 148 #[(Value.agg #[.int .u64 (lo q.num.natAbs),.string (bg q.num.natAbs),.bool (q.num<0),.int .u64 (lo (q.den - 1)),.string (bg (q.den - 1))])] w (.agg #[.int .u64 (lo z.natAbs),.string (bg z.natAbs),.bool (z<0)]):=by
 go_enter Tryz.func148,Tryz.ntmps148
 have I:=lh_ (hp0 w)
 refine kSl fun K O=>?_;go_wp2
 refine kF_ O (al2_ I) fun Wx0 J=>?_;clear O K
 clear I;have I:=J;clear J
 generalize w.heap.size+1=gx1 at *
 obtain ⟨u1,HZ1⟩:=ex_ (-(q))
 have su1:sz u1≤10000000000:=by rw [← HZ1.out];rw [qg7];omega
 obtain ⟨u2,HZ2⟩:=ex_ (u1.floor)
 have su2:wl u2.natAbs≤10000000001:=by rw [← HZ2.out];have:=qg4 u1;omega
 have HZ3:Hid (-(u2)=z):=lh_ (by rw [← HZ.out,← qz_];simp only [← HZ2.out,← HZ1.out])
 have su3:wl z.natAbs≤10000000001:=by have e:=HZ3.out;first|omega|(rw [← e];rw [Int.natAbs_neg];omega)
 have lx0:=kc0_ I
 refine ks4_ fun K O T Y=>?_
 refine tk ?_
 refine ck Tryz.call45 (fun w' hw=>qe5 q u1 _ HZ1.out) ?_
 refine ck Tryz.call142 (fun w' hw=>qf2 u1 u2 _ (lh_ HZ2.out) om) ?_
 refine ck Tryz.call44 (fun w' hw=>xN7 u2 z _ HZ3.out) ?_
 refine nlS Y I fun vw1 J=>?_
 clear Y T I lx0
 have lx1:=kc1_ J;have fx1:=kf1_ J
 have r0:=Gr.refl vw1
 go_wp2
 refine kO O ?_;clear O K
 clear r0 lx1 fx1
 refine fH ((((J.out).put2 1 0 rfl).put 1 2 _ rfl).er 0) fun Wx1 I=>?_
 clear J
 refine wp_ret ?_
 try simp only [Exit.then,Exit.inBlock]
 have lx1:=kc0_ I
 have r0:=Gr.refl Wx1
 exact bR ⟨rfl,I.out.1⟩ (by simp [results,Tryz.results148,go_sem,lx1 _ r0])
end
section
open Go.RowKit
attribute [local go_sem ↓] Go.wp_at_zero Go.wp_at_succ
attribute [local go_sem ↓] eq_nat eq_nat_zero eq_int
theorem qt1 (n:Int) (j:Nat):(-n) ^ (2*j)=n ^ (2*j):=by
 rw [Int.pow_mul,Int.pow_mul]
 congr 1
 rw [Int.pow_succ,Int.pow_succ,Int.pow_succ,Int.pow_succ,Int.pow_zero,Int.pow_zero,Int.one_mul,Int.one_mul,Int.neg_mul_neg]
theorem qw8 (a z:Rat) (k:Nat) (hz:a ^ k=z) (h:0≤a.num):((a.num.natAbs ^ k:Nat):Int)=z.num:=by
 rw [← hz,Rat.num_pow,Int.natCast_pow,Int.natAbs_of_nonneg h]
theorem qt3 (a z:Rat) (k:Nat) (hz:a ^ k=z) (h:a.num<0) (hk:k % 2=0):((a.num.natAbs ^ k:Nat):Int)=z.num:=by
 obtain ⟨j,rfl⟩:∃ j,k=2*j:=⟨k / 2,by omega⟩
 rw [← hz,Rat.num_pow,Int.natCast_pow,show ((a.num.natAbs:Nat):Int) = -a.num by omega,qt1]
theorem qw7 (a z:Rat) (k:Nat) (hz:a ^ k=z) (h:a.num<0) (hk:k % 2=1):-((a.num.natAbs ^ k:Nat):Int)=z.num:=by
 obtain ⟨j,rfl⟩:∃ j,k=2*j+1:=⟨k / 2,by omega⟩
 rw [← hz,Rat.num_pow,Int.natCast_pow,show ((a.num.natAbs:Nat):Int) = -a.num by omega,Int.pow_succ,qt1,Int.pow_succ,Int.mul_neg,Int.neg_neg]
theorem xK7 (k:Nat) (h:k % 2=1):Int.tmod ((k:Nat):Int) 2=1:=by
 rw [Int.tmod_eq_emod_of_nonneg om];omega
theorem xC3 (k:Nat) (h:k % 2=0):Int.tmod ((k:Nat):Int) 2=0:=by
 rw [Int.tmod_eq_emod_of_nonneg om];omega
theorem qP6 {a:Rat} (h:¬ a<0):¬ sgQ a<0:=by
 unfold sgQ;rw [if_neg h];split <;> decide
theorem xl1 (a z:Rat) (k:Nat) (w:World) (HP1:Hid (k*nb a.num.natAbs≤262144)) (HP2:Hid (k*nb a.den≤262144)) (HZ:Hid (a ^ k=z)) (hk:k≤4096) (hs:sz a≤8192) (ha:a<0) (HK:Hid (k % 2=1)) :
  CB 151 #[(Value.agg #[.int .u64 (lo a.num.natAbs),.string (bg a.num.natAbs),.bool (a.num<0),.int .u64 (lo (a.den - 1)),.string (bg (a.den - 1))]),.int .i64 (((k:Nat):Int))] w (.tuple #[(.agg #[.int .u64 (lo z.num.natAbs),.string (bg z.num.natAbs),.bool (z.num<0),.int .u64 (lo (z.den - 1)),.string (bg (z.den - 1))]),.int .i64 0]):=by
 have hn_a:wl a.num.natAbs≤8192:=Nat.le_trans (qc4 a) hs
 have hd_a:wl (a.den)≤8192:=Nat.le_trans (qb7 a) hs
 go_enter Tryz.func151,Tryz.ntmps151
 have I:=lh_ (hp0 w)
 refine kSl fun K O=>?_;go_wp2
 refine kF_ O (al2_ I) fun Wx0 J=>?_;clear O K
 clear I;have I:=J;clear J
 generalize w.heap.size+1=gx1 at *
 refine wp_seq ?_
 refine wp_block ?_
 have hd1:¬ ((((k:Nat):Int)) < -4096):=ok
 have hd2:¬ (4096<(((k:Nat):Int))):=ok
 refine ks7_ fun K O T Y=>?_
 iterate 7 refine tk ?_
 refine nz Y I O ?_;clear Y T I O K;intro vw1 I
 clear hd1 hd2
 refine wp_cond_false (by rfl) ?_
 have hd3:¬ ((((k:Nat):Int))<0):=ok
 have hd4:¬ (k<0):=by have e:=hd3;omega
 refine ks3_ fun K O T Y=>?_
 refine tk3_ ?_
 refine nz Y I O ?_;clear Y T I O K;intro vw2 I
 clear hd3 hd4
 refine wp_cond_false (by rfl) ?_
 refine wp_skip ?_
 show Code.wp _ _ _ _ _
 obtain ⟨u1,HZ1⟩:=ex_ (a.num.natAbs ^ k)
 have su1:wl u1≤8192:=by rw [← HZ1.out];exact qm7 _ _ (HP1.out)
 have lx0:=kc0_ I
 refine ks8_ fun K O T Y=>?_
 refine tk2_ ?_
 refine ck Tryz.call100 (fun w' hw=>qk7 (a.num) _) ?_
 refine tk ?_
 refine ck Tryz.call164 (fun w' hw=>qF4 a.num.natAbs k u1 _ HZ1.out om (HP1.out) om) ?_
 refine tk3_ ?_
 refine nlS Y I fun vw3 J=>?_
 clear Y T I lx0
 go_wp2
 refine kF_ O ((J.out).aL (vw3.heap.size)) fun Wx8 I=>?_;clear O K
 clear J
 generalize vw3.heap.size=gx3 at *
 have su2:wl (a.den)≤8192:=Nat.le_trans (qb7 _) om
 have sp2:0<(a).den:=(a).den_pos
 have HZ3:Hid ((a.den) ^ k=(z).den):=lh_ (by rw [← HZ.out];rfl)
 have su3:wl (z.den)≤8192:=by have e:=HZ3.out;first|omega|(rw [← e];exact qm7 _ _ (HP2.out))
 have lx0:=kc0_ I
 refine ks7_ fun K O T Y=>?_
 refine tk ?_
 refine ck Tryz.call114 (fun w' hw=>qd6 a om _) ?_
 refine tk ?_
 refine ck Tryz.call164 (fun w' hw=>qF4 (a.den) k (z.den) _ HZ3.out om (HP2.out) om) ?_
 refine tk3_ ?_
 refine nlS Y I fun vw4 J=>?_
 clear Y T I lx0
 go_wp2
 refine kF_ O ((J.out).aL (vw4.heap.size)) fun Wx9 I=>?_;clear O K
 clear J
 generalize vw4.heap.size=gx4 at *
 refine wp_seq ?_
 refine ks6_ fun K O T Y=>?_
 iterate 6 refine tk ?_
 refine nz Y I O ?_;clear Y T I O K;intro vw5 I
 refine csk ?_
 have hrem:Int.tmod ((k:Nat):Int) 2=1:=xK7 k HK.out
 have HZ4:Hid ((if true then -((u1:Nat):Int) else ((u1:Nat):Int))=(z).num):=lh_ (by rw [← HZ1.out];first|(rw [if_pos rfl];exact qw7 a z k HZ.out (ql1.2 ha) HK.out)|(rw [if_neg (by decide)];exact qw7 a z k HZ.out (ql1.2 ha) HK.out))
 have su4:wl z.num.natAbs≤8192:=by have e:=HZ4.out;first|omega|(rw [← e];split <;> simp <;> omega)
 have HZ5:Hid (mkRat (z.num) (z.den)=z):=lh_ (Rat.mkRat_self z)
 have su5:sz z≤8192:=by have e:=HZ5.out;first|omega|(rw [← e];exact qe1 (k:=8192) om om (by decide))
 have lx0:=kc0_ I
 have lx3:=kc2_ I
 have lx4:=kc3_ I
 refine kS fun K O=>?_
 refine xy4 fun T Y=>?_
 refine tk3_ ?_
 refine ck Tryz.call139 (fun w' hw=>qh8 a (-1) _ xN5) ?_
 iterate 6 refine tk ?_
 refine ck Tryz.call37 (fun w' hw=>qa8 true u1 (z.num) _ HZ4.out) ?_
 refine ck Tryz.call102 (fun w' hw=>qi_ (z.num) (z.den) z _ (lh_ HZ5.out) (by exact z.den_pos) om om) ?_
 refine tk2_ ?_
 refine nlD Y I fun vw6 J=>?_
 clear Y T I lx0 lx3 lx4
 have lx1:=kc1_ J;have fx1:=kf1_ J
 have r0:=Gr.refl vw6
 go_wp2
 refine kO O ?_;clear O K
 clear r0 lx1 fx1
 refine fH (((((((J.out).put2 1 0 rfl).put2 1 2 rfl).put 1 4 _ rfl).er 3).er 2).er 0) fun Wx12 I=>?_
 clear J
 clear hrem
 refine wp_ret ?_
 try simp only [Exit.then,Exit.inBlock]
 have lx1:=kc0_ I
 have r0:=Gr.refl Wx12
 exact bR ⟨rfl,I.out.1⟩ (by simp [results,Tryz.results151,go_sem,lx1 _ r0])
theorem xa4 (a z:Rat) (k:Nat) (w:World) (HP1:Hid (k*nb a.num.natAbs≤262144)) (HP2:Hid (k*nb a.den≤262144)) (HZ:Hid (a ^ k=z)) (hk:k≤4096) (hs:sz a≤8192) (ha:a<0) (HK:Hid (k % 2=0)) :
  CB 151 #[(Value.agg #[.int .u64 (lo a.num.natAbs),.string (bg a.num.natAbs),.bool (a.num<0),.int .u64 (lo (a.den - 1)),.string (bg (a.den - 1))]),.int .i64 (((k:Nat):Int))] w (.tuple #[(.agg #[.int .u64 (lo z.num.natAbs),.string (bg z.num.natAbs),.bool (z.num<0),.int .u64 (lo (z.den - 1)),.string (bg (z.den - 1))]),.int .i64 0]):=by
 have hn_a:wl a.num.natAbs≤8192:=Nat.le_trans (qc4 a) hs
 have hd_a:wl (a.den)≤8192:=Nat.le_trans (qb7 a) hs
 go_enter Tryz.func151,Tryz.ntmps151
 have I:=lh_ (hp0 w)
 refine kSl fun K O=>?_;go_wp2
 refine kF_ O (al2_ I) fun Wx0 J=>?_;clear O K
 clear I;have I:=J;clear J
 generalize w.heap.size+1=gx1 at *
 refine wp_seq ?_
 refine wp_block ?_
 have hd1:¬ ((((k:Nat):Int)) < -4096):=ok
 have hd2:¬ (4096<(((k:Nat):Int))):=ok
 refine ks7_ fun K O T Y=>?_
 iterate 7 refine tk ?_
 refine nz Y I O ?_;clear Y T I O K;intro vw1 I
 clear hd1 hd2
 refine wp_cond_false (by rfl) ?_
 have hd3:¬ ((((k:Nat):Int))<0):=ok
 have hd4:¬ (k<0):=by have e:=hd3;omega
 refine ks3_ fun K O T Y=>?_
 refine tk3_ ?_
 refine nz Y I O ?_;clear Y T I O K;intro vw2 I
 clear hd3 hd4
 refine wp_cond_false (by rfl) ?_
 refine wp_skip ?_
 show Code.wp _ _ _ _ _
 obtain ⟨u1,HZ1⟩:=ex_ (a.num.natAbs ^ k)
 have su1:wl u1≤8192:=by rw [← HZ1.out];exact qm7 _ _ (HP1.out)
 have lx0:=kc0_ I
 refine ks8_ fun K O T Y=>?_
 refine tk2_ ?_
 refine ck Tryz.call100 (fun w' hw=>qk7 (a.num) _) ?_
 refine tk ?_
 refine ck Tryz.call164 (fun w' hw=>qF4 a.num.natAbs k u1 _ HZ1.out om (HP1.out) om) ?_
 refine tk3_ ?_
 refine nlS Y I fun vw3 J=>?_
 clear Y T I lx0
 go_wp2
 refine kF_ O ((J.out).aL (vw3.heap.size)) fun Wx8 I=>?_;clear O K
 clear J
 generalize vw3.heap.size=gx3 at *
 have su2:wl (a.den)≤8192:=Nat.le_trans (qb7 _) om
 have sp2:0<(a).den:=(a).den_pos
 have HZ3:Hid ((a.den) ^ k=(z).den):=lh_ (by rw [← HZ.out];rfl)
 have su3:wl (z.den)≤8192:=by have e:=HZ3.out;first|omega|(rw [← e];exact qm7 _ _ (HP2.out))
 have lx0:=kc0_ I
 refine ks7_ fun K O T Y=>?_
 refine tk ?_
 refine ck Tryz.call114 (fun w' hw=>qd6 a om _) ?_
 refine tk ?_
 refine ck Tryz.call164 (fun w' hw=>qF4 (a.den) k (z.den) _ HZ3.out om (HP2.out) om) ?_
 refine tk3_ ?_
 refine nlS Y I fun vw4 J=>?_
 clear Y T I lx0
 go_wp2
 refine kF_ O ((J.out).aL (vw4.heap.size)) fun Wx9 I=>?_;clear O K
 clear J
 generalize vw4.heap.size=gx4 at *
 refine wp_seq ?_
 refine ks6_ fun K O T Y=>?_
 iterate 6 refine tk ?_
 refine nz Y I O ?_;clear Y T I O K;intro vw5 I
 refine csk ?_
 have hrem:Int.tmod ((k:Nat):Int) 2=0:=xC3 k HK.out
 have HZ4:Hid ((if false then -((u1:Nat):Int) else ((u1:Nat):Int))=(z).num):=lh_ (by rw [← HZ1.out];first|(rw [if_pos rfl];exact qt3 a z k HZ.out (ql1.2 ha) HK.out)|(rw [if_neg (by decide)];exact qt3 a z k HZ.out (ql1.2 ha) HK.out))
 have su4:wl z.num.natAbs≤8192:=by have e:=HZ4.out;first|omega|(rw [← e];split <;> simp <;> omega)
 have HZ5:Hid (mkRat (z.num) (z.den)=z):=lh_ (Rat.mkRat_self z)
 have su5:sz z≤8192:=by have e:=HZ5.out;first|omega|(rw [← e];exact qe1 (k:=8192) om om (by decide))
 have lx0:=kc0_ I
 have lx3:=kc2_ I
 have lx4:=kc3_ I
 refine kS fun K O=>?_
 refine xy4 fun T Y=>?_
 refine tk3_ ?_
 refine ck Tryz.call139 (fun w' hw=>qh8 a (-1) _ xN5) ?_
 iterate 6 refine tk ?_
 refine ck Tryz.call37 (fun w' hw=>qa8 false u1 (z.num) _ HZ4.out) ?_
 refine ck Tryz.call102 (fun w' hw=>qi_ (z.num) (z.den) z _ (lh_ HZ5.out) (by exact z.den_pos) om om) ?_
 refine tk2_ ?_
 refine nlD Y I fun vw6 J=>?_
 clear Y T I lx0 lx3 lx4
 have lx1:=kc1_ J;have fx1:=kf1_ J
 have r0:=Gr.refl vw6
 go_wp2
 refine kO O ?_;clear O K
 clear r0 lx1 fx1
 refine fH (((((((J.out).put2 1 0 rfl).put2 1 2 rfl).put 1 4 _ rfl).er 3).er 2).er 0) fun Wx12 I=>?_
 clear J
 clear hrem
 refine wp_ret ?_
 try simp only [Exit.then,Exit.inBlock]
 have lx1:=kc0_ I
 have r0:=Gr.refl Wx12
 exact bR ⟨rfl,I.out.1⟩ (by simp [results,Tryz.results151,go_sem,lx1 _ r0])
theorem xw6 (a z:Rat) (k:Nat) (t:Int) (w:World) (HP1:Hid (k*nb a.num.natAbs≤262144)) (HP2:Hid (k*nb a.den≤262144)) (HZ:Hid (a ^ k=z)) (hk:k≤4096) (hs:sz a≤8192) (HA:Hid (0≤a.num)) (HT_:Hid (sgQ a=t)) (ht:¬ t<0) :
  CB 151 #[(Value.agg #[.int .u64 (lo a.num.natAbs),.string (bg a.num.natAbs),.bool (a.num<0),.int .u64 (lo (a.den - 1)),.string (bg (a.den - 1))]),.int .i64 (((k:Nat):Int))] w (.tuple #[(.agg #[.int .u64 (lo z.num.natAbs),.string (bg z.num.natAbs),.bool (z.num<0),.int .u64 (lo (z.den - 1)),.string (bg (z.den - 1))]),.int .i64 0]):=by
 have hn_a:wl a.num.natAbs≤8192:=Nat.le_trans (qc4 a) hs
 have hd_a:wl (a.den)≤8192:=Nat.le_trans (qb7 a) hs
 go_enter Tryz.func151,Tryz.ntmps151
 have I:=lh_ (hp0 w)
 refine kSl fun K O=>?_;go_wp2
 refine kF_ O (al2_ I) fun Wx0 J=>?_;clear O K
 clear I;have I:=J;clear J
 generalize w.heap.size+1=gx1 at *
 refine wp_seq ?_
 refine wp_block ?_
 have hd1:¬ ((((k:Nat):Int)) < -4096):=ok
 have hd2:¬ (4096<(((k:Nat):Int))):=ok
 refine ks7_ fun K O T Y=>?_
 iterate 7 refine tk ?_
 refine nz Y I O ?_;clear Y T I O K;intro vw1 I
 clear hd1 hd2
 refine wp_cond_false (by rfl) ?_
 have hd3:¬ ((((k:Nat):Int))<0):=ok
 have hd4:¬ (k<0):=by have e:=hd3;omega
 refine ks3_ fun K O T Y=>?_
 refine tk3_ ?_
 refine nz Y I O ?_;clear Y T I O K;intro vw2 I
 clear hd3 hd4
 refine wp_cond_false (by rfl) ?_
 refine wp_skip ?_
 show Code.wp _ _ _ _ _
 obtain ⟨u1,HZ1⟩:=ex_ (a.num.natAbs ^ k)
 have su1:wl u1≤8192:=by rw [← HZ1.out];exact qm7 _ _ (HP1.out)
 have lx0:=kc0_ I
 refine ks8_ fun K O T Y=>?_
 refine tk2_ ?_
 refine ck Tryz.call100 (fun w' hw=>qk7 (a.num) _) ?_
 refine tk ?_
 refine ck Tryz.call164 (fun w' hw=>qF4 a.num.natAbs k u1 _ HZ1.out om (HP1.out) om) ?_
 refine tk3_ ?_
 refine nlS Y I fun vw3 J=>?_
 clear Y T I lx0
 go_wp2
 refine kF_ O ((J.out).aL (vw3.heap.size)) fun Wx8 I=>?_;clear O K
 clear J
 generalize vw3.heap.size=gx3 at *
 have su2:wl (a.den)≤8192:=Nat.le_trans (qb7 _) om
 have sp2:0<(a).den:=(a).den_pos
 have HZ3:Hid ((a.den) ^ k=(z).den):=lh_ (by rw [← HZ.out];rfl)
 have su3:wl (z.den)≤8192:=by have e:=HZ3.out;first|omega|(rw [← e];exact qm7 _ _ (HP2.out))
 have lx0:=kc0_ I
 refine ks7_ fun K O T Y=>?_
 refine tk ?_
 refine ck Tryz.call114 (fun w' hw=>qd6 a om _) ?_
 refine tk ?_
 refine ck Tryz.call164 (fun w' hw=>qF4 (a.den) k (z.den) _ HZ3.out om (HP2.out) om) ?_
 refine tk3_ ?_
 refine nlS Y I fun vw4 J=>?_
 clear Y T I lx0
 go_wp2
 refine kF_ O ((J.out).aL (vw4.heap.size)) fun Wx9 I=>?_;clear O K
 clear J
 generalize vw4.heap.size=gx4 at *
 refine wp_seq ?_
 refine ks6_ fun K O T Y=>?_
 iterate 6 refine tk ?_
 refine nz Y I O ?_;clear Y T I O K;intro vw5 I
 refine csk ?_
 have hd5:¬ (t<0):=by first|exact ok|(simp only [← HZ1.out] <;> first|exact ok)
 have HZ4:Hid ((if false then -((u1:Nat):Int) else ((u1:Nat):Int))=(z).num):=lh_ (by rw [← HZ1.out];first|(rw [if_pos rfl];exact qw8 a z k HZ.out HA.out)|(rw [if_neg (by decide)];exact qw8 a z k HZ.out HA.out))
 have su4:wl z.num.natAbs≤8192:=by have e:=HZ4.out;first|omega|(rw [← e];split <;> simp <;> omega)
 have HZ5:Hid (mkRat (z.num) (z.den)=z):=lh_ (Rat.mkRat_self z)
 have su5:sz z≤8192:=by have e:=HZ5.out;first|omega|(rw [← e];exact qe1 (k:=8192) om om (by decide))
 have lx0:=kc0_ I
 have lx3:=kc2_ I
 have lx4:=kc3_ I
 refine kS fun K O=>?_
 refine xy4 fun T Y=>?_
 refine tk3_ ?_
 refine ck Tryz.call139 (fun w' hw=>qh8 a t _ (HT_.out)) ?_
 refine tk2_ ?_
 iterate 3 refine sk ?_
 refine tk ?_
 refine ck Tryz.call37 (fun w' hw=>qa8 false u1 (z.num) _ HZ4.out) ?_
 refine ck Tryz.call102 (fun w' hw=>qi_ (z.num) (z.den) z _ (lh_ HZ5.out) (by exact z.den_pos) om om) ?_
 refine tk2_ ?_
 refine nlD Y I fun vw6 J=>?_
 clear Y T I lx0 lx3 lx4
 have lx1:=kc1_ J;have fx1:=kf1_ J
 have r0:=Gr.refl vw6
 go_wp2
 refine kO O ?_;clear O K
 clear r0 lx1 fx1
 refine fH (((((((J.out).put2 1 0 rfl).put2 1 2 rfl).put 1 4 _ rfl).er 3).er 2).er 0) fun Wx12 I=>?_
 clear J
 clear hd5
 refine wp_ret ?_
 try simp only [Exit.then,Exit.inBlock]
 have lx1:=kc0_ I
 have r0:=Gr.refl Wx12
 exact bR ⟨rfl,I.out.1⟩ (by simp [results,Tryz.results151,go_sem,lx1 _ r0])
theorem qI6 (a z:Rat) (k:Nat) (w:World) (hz:a ^ k=z) (hk:k≤4096) (h1:k*nb a.num.natAbs≤262144) (h2:k*nb a.den≤262144) (hs:sz a≤8192) :
  CB 151 #[(Value.agg #[.int .u64 (lo a.num.natAbs),.string (bg a.num.natAbs),.bool (a.num<0),.int .u64 (lo (a.den - 1)),.string (bg (a.den - 1))]),.int .i64 ((k:Nat):Int)] w (.tuple #[(Value.agg #[.int .u64 (lo z.num.natAbs),.string (bg z.num.natAbs),.bool (z.num<0),.int .u64 (lo (z.den - 1)),.string (bg (z.den - 1))]),.int .i64 0]):=by
 by_cases ha:a<0
 ·rcases Nat.mod_two_eq_zero_or_one k with h|h
  ·exact xa4 a z k w (lh_ h1) (lh_ h2) (lh_ hz) hk hs ha (lh_ h)
  exact xl1 a z k w (lh_ h1) (lh_ h2) (lh_ hz) hk hs ha (lh_ h)
 exact xw6 a z k _ w (lh_ h1) (lh_ h2) (lh_ hz) hk hs (lh_ (by have h9:¬ a.num<0:=fun e=>ha (ql1.1 e);omega)) (lh_ rfl) (qP6 ha)
end
section
open Go.RowKit
attribute [local go_sem ↓] Go.wp_at_zero Go.wp_at_succ
attribute [local go_sem ↓] eq_nat eq_nat_zero eq_int
end
end Go.Proofs.YtobojnodohjiaaaGreatDoor
