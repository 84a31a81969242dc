
/- ints.Div: quotient and rest as Lean's / and %. -/
import Derived.Test.YtobojnodohjiaaaGreatDoorIntE
import Derived.Test.YtobojnodohjiaaaGreatDoorPJ
import Derived.Test.YtobojnodohjiaaaGreatDoorHp
set_option maxRecDepth 100000
set_option maxHeartbeats 16000000
set_option linter.unusedVariables false
set_option linter.unusedSimpArgs false
namespace Go.Proofs.YtobojnodohjiaaaGreatDoor
open Go.RowKit
attribute [local go_sem ↓] Go.wp_at_zero Go.wp_at_succ
attribute [local go_sem ↓] eq_nat eq_nat_zero eq_int
theorem xu6 (a b q r:Int) (w:World) (HQ:Hid (a / b=q)) (HR:Hid (a % b=r)) (HBS:Hid (0<b)) (H0:Hid (0≤a)) (HRS:Hid (0≤r)) (ha9:wl a.natAbs≤100000000000) (hb9:wl b.natAbs≤100000000000) :
  CB 42 #[(Value.agg #[.int .u64 (lo a.natAbs),.string (bg a.natAbs),.bool (a<0)]),(Value.agg #[.int .u64 (lo b.natAbs),.string (bg b.natAbs),.bool (b<0)])] w (.tuple #[(.agg #[.int .u64 (lo q.natAbs),.string (bg q.natAbs),.bool (q<0)]),(.agg #[.int .u64 (lo r.natAbs),.string (bg r.natAbs),.bool (r<0)]),.bool true]):=by
 go_enter Tryz.func42,Tryz.ntmps42
 have I:=lh_ (hp0 w)
 refine kSl fun K O=>?_;go_wp2
 refine kF_ O ((al3_ I).aL (w.heap.size+1+1+1)) fun Wx0 J=>?_;clear O K
 clear I;have I:=J;clear J
 generalize w.heap.size+1+1+1=gx3 at *
 generalize w.heap.size+1+1=gx2 at *
 generalize w.heap.size+1=gx1 at *
 obtain ⟨u1,HZ1⟩:=ex_ (a.natAbs / b.natAbs)
 have su1:wl u1≤100000000000:=by rw [← HZ1.out];have:=qo3 a.natAbs b.natAbs;omega
 obtain ⟨u2,HZ2⟩:=ex_ (a.natAbs % b.natAbs)
 have su2:wl u2≤100000000000:=by rw [← HZ2.out];have:=qr4 a.natAbs b.natAbs;omega
 have lx0:=kc0_ I
 have lx1:=kc1_ I
 refine qr5 fun K O T Y=>?_
 iterate 6 refine tk ?_
 refine ck Tryz.call43 (fun w' hw=>qM9 a.natAbs b.natAbs u1 u2 _ HZ1.out HZ2.out zb6_ om om) ?_
 iterate 4 refine tk ?_
 refine nlS Y I fun vw1 J=>?_
 clear Y T I lx0 lx1
 go_wp2
 refine kF_ O (((J.out).aL (vw1.heap.size)).aL (vw1.heap.size+1)) fun Wx1 I=>?_;clear O K
 clear J
 generalize vw1.heap.size+1=gx6 at *
 generalize vw1.heap.size=gx5 at *
 refine wp_seq ?_
 refine ks2_ fun K O T Y=>?_
 refine tk2_ ?_
 refine nz Y I O ?_;clear Y T I O K;intro vw2 I
 refine wp_cond_false (by rfl) ?_
 refine wp_skip ?_
 show Code.wp _ _ _ _ _
 have hd1:decide (a<0)=false:=decide_eq_false zb6_
 have hd2:decide (b<0)=false:=decide_eq_false zb6_
 have hd3:decide (a<0)=false:=decide_eq_false zb6_
 have HZ3:Hid ((if false then -((u1:Nat):Int) else ((u1:Nat):Int))=q):=lh_ xA3
 have su3:wl q.natAbs≤100000000000:=by have e:=HZ3.out;first|omega|(rw [← e];split <;> simp <;> omega)
 have HZ4:Hid ((if false then -((u2:Nat):Int) else ((u2:Nat):Int))=r):=lh_ xj3
 have su4:wl r.natAbs≤100000000000:=by have e:=HZ4.out;first|omega|(rw [← e];split <;> simp <;> omega)
 have lx0:=kc0_ I
 have lx1:=kc1_ I
 have lx5:=kc4_ I
 have lx6:=kc5_ I
 refine kS fun K O=>?_
 refine pd6_ fun T Y=>?_
 iterate 9 refine tk ?_
 refine ck Tryz.call37 (fun w' hw=>qa7 false u1 q _ HZ3.out) ?_
 refine ck Tryz.call37 (fun w' hw=>qa7 false u2 r _ HZ4.out) ?_
 refine nlD Y I fun vw3 J=>?_
 clear Y T I lx0 lx1 lx5 lx6
 have lx2:=kc2_ J;have fx2:=kf2_ J
 have lx3:=kc3_ J;have fx3:=kf3_ J
 have r0:=Gr.refl vw3
 obtain ⟨d2_3,d3_2⟩:=J.out.ne 2 3 rfl rfl (by decide)
 go_wp2
 refine kO O ?_;clear O K
 clear r0 lx2 fx2 lx3 fx3 d2_3 d3_2
 refine fH ((((((((J.out).put2 2 0 rfl).put 2 2 _ rfl).put2 3 0 rfl).put 3 2 _ rfl).er 5).er 4).er 0) fun Wx4 I=>?_
 clear J
 clear hd1 hd2 hd3
 refine wp_seq ?_
 have hd4:decide (r<0)=false:=decide_eq_false zb6_
 have lx3:=kc2_ I
 refine ks2_ fun K O T Y=>?_
 refine tk2_ ?_
 refine nz Y I O ?_;clear Y T I lx3 O K;intro vw4 I
 clear hd4
 refine wp_cond_false (by rfl) ?_
 refine wp_skip ?_
 show Code.wp _ _ _ _ _
 have lx2:=kc1_ I;have fx2:=kf1_ I
 have lx3:=kc2_ I;have fx3:=kf2_ I
 have r0:=Gr.refl vw4
 obtain ⟨d2_3,d3_2⟩:=I.out.ne 1 2 rfl rfl (by decide)
 refine kS fun K O=>?_
 go_region
 go_wp2
 refine kO O ?_;clear O K
 clear r0 lx2 fx2 lx3 fx3 d2_3 d3_2
 refine fH (((((((I.out).put2 1 0 rfl).put 1 2 _ rfl).put2 2 0 rfl).put 2 2 _ rfl).er 0).gr ((Below.refl _ _).drew)) fun Wx8 J=>?_
 clear I;have I:=J;clear J
 refine wp_ret ?_
 try simp only [Exit.then,Exit.inBlock]
 have lx2:=kc0_ I
 have lx3:=kc1_ I
 have r0:=Gr.refl Wx8
 exact bR ⟨rfl,I.out.1⟩ qP3
theorem xu5 (a b q r:Int) (w:World) (HQ:Hid (a / b=q)) (HR:Hid (a % b=r)) (HBS:Hid (b<0)) (H0:Hid (0≤a)) (HRS:Hid (0≤r)) (ha9:wl a.natAbs≤100000000000) (hb9:wl b.natAbs≤100000000000) :
  CB 42 #[(Value.agg #[.int .u64 (lo a.natAbs),.string (bg a.natAbs),.bool (a<0)]),(Value.agg #[.int .u64 (lo b.natAbs),.string (bg b.natAbs),.bool (b<0)])] w (.tuple #[(.agg #[.int .u64 (lo q.natAbs),.string (bg q.natAbs),.bool (q<0)]),(.agg #[.int .u64 (lo r.natAbs),.string (bg r.natAbs),.bool (r<0)]),.bool true]):=by
 go_enter Tryz.func42,Tryz.ntmps42
 have I:=lh_ (hp0 w)
 refine kSl fun K O=>?_;go_wp2
 refine kF_ O ((al3_ I).aL (w.heap.size+1+1+1)) fun Wx0 J=>?_;clear O K
 clear I;have I:=J;clear J
 generalize w.heap.size+1+1+1=gx3 at *
 generalize w.heap.size+1+1=gx2 at *
 generalize w.heap.size+1=gx1 at *
 obtain ⟨u1,HZ1⟩:=ex_ (a.natAbs / b.natAbs)
 have su1:wl u1≤100000000000:=by rw [← HZ1.out];have:=qo3 a.natAbs b.natAbs;omega
 obtain ⟨u2,HZ2⟩:=ex_ (a.natAbs % b.natAbs)
 have su2:wl u2≤100000000000:=by rw [← HZ2.out];have:=qr4 a.natAbs b.natAbs;omega
 have lx0:=kc0_ I
 have lx1:=kc1_ I
 refine qr5 fun K O T Y=>?_
 iterate 6 refine tk ?_
 refine ck Tryz.call43 (fun w' hw=>qM9 a.natAbs b.natAbs u1 u2 _ HZ1.out HZ2.out zb6_ om om) ?_
 iterate 4 refine tk ?_
 refine nlS Y I fun vw1 J=>?_
 clear Y T I lx0 lx1
 go_wp2
 refine kF_ O (((J.out).aL (vw1.heap.size)).aL (vw1.heap.size+1)) fun Wx1 I=>?_;clear O K
 clear J
 generalize vw1.heap.size+1=gx6 at *
 generalize vw1.heap.size=gx5 at *
 refine wp_seq ?_
 refine ks2_ fun K O T Y=>?_
 refine tk2_ ?_
 refine nz Y I O ?_;clear Y T I O K;intro vw2 I
 refine wp_cond_false (by rfl) ?_
 refine wp_skip ?_
 show Code.wp _ _ _ _ _
 have hd1:decide (a<0)=false:=decide_eq_false zb6_
 have hd2:decide (b<0)=true:=decide_eq_true zb6_
 have hd3:decide (a<0)=false:=decide_eq_false zb6_
 have HZ3:Hid ((if true then -((u1:Nat):Int) else ((u1:Nat):Int))=q):=lh_ xA4
 have su3:wl q.natAbs≤100000000000:=by have e:=HZ3.out;first|omega|(rw [← e];split <;> simp <;> omega)
 have HZ4:Hid ((if false then -((u2:Nat):Int) else ((u2:Nat):Int))=r):=lh_ xj3
 have su4:wl r.natAbs≤100000000000:=by have e:=HZ4.out;first|omega|(rw [← e];split <;> simp <;> omega)
 have lx0:=kc0_ I
 have lx1:=kc1_ I
 have lx5:=kc4_ I
 have lx6:=kc5_ I
 refine kS fun K O=>?_
 refine pd6_ fun T Y=>?_
 iterate 9 refine tk ?_
 refine ck Tryz.call37 (fun w' hw=>qa7 true u1 q _ HZ3.out) ?_
 refine ck Tryz.call37 (fun w' hw=>qa7 false u2 r _ HZ4.out) ?_
 refine nlD Y I fun vw3 J=>?_
 clear Y T I lx0 lx1 lx5 lx6
 have lx2:=kc2_ J;have fx2:=kf2_ J
 have lx3:=kc3_ J;have fx3:=kf3_ J
 have r0:=Gr.refl vw3
 obtain ⟨d2_3,d3_2⟩:=J.out.ne 2 3 rfl rfl (by decide)
 go_wp2
 refine kO O ?_;clear O K
 clear r0 lx2 fx2 lx3 fx3 d2_3 d3_2
 refine fH ((((((((J.out).put2 2 0 rfl).put 2 2 _ rfl).put2 3 0 rfl).put 3 2 _ rfl).er 5).er 4).er 0) fun Wx4 I=>?_
 clear J
 clear hd1 hd2 hd3
 refine wp_seq ?_
 have hd4:decide (r<0)=false:=decide_eq_false zb6_
 have lx3:=kc2_ I
 refine ks2_ fun K O T Y=>?_
 refine tk2_ ?_
 refine nz Y I O ?_;clear Y T I lx3 O K;intro vw4 I
 clear hd4
 refine wp_cond_false (by rfl) ?_
 refine wp_skip ?_
 show Code.wp _ _ _ _ _
 have lx2:=kc1_ I;have fx2:=kf1_ I
 have lx3:=kc2_ I;have fx3:=kf2_ I
 have r0:=Gr.refl vw4
 obtain ⟨d2_3,d3_2⟩:=I.out.ne 1 2 rfl rfl (by decide)
 refine kS fun K O=>?_
 go_region
 go_wp2
 refine kO O ?_;clear O K
 clear r0 lx2 fx2 lx3 fx3 d2_3 d3_2
 refine fH (((((((I.out).put2 1 0 rfl).put 1 2 _ rfl).put2 2 0 rfl).put 2 2 _ rfl).er 0).gr ((Below.refl _ _).drew)) fun Wx8 J=>?_
 clear I;have I:=J;clear J
 refine wp_ret ?_
 try simp only [Exit.then,Exit.inBlock]
 have lx2:=kc0_ I
 have lx3:=kc1_ I
 have r0:=Gr.refl Wx8
 exact bR ⟨rfl,I.out.1⟩ qP3
theorem xu8 (a b q r:Int) (w:World) (HQ:Hid (a / b=q)) (HR:Hid (a % b=r)) (HBS:Hid (0<b)) (H0:Hid (a<0)) (HM:Hid (a.natAbs % b.natAbs=0)) (HRS:Hid (0≤r)) (ha9:wl a.natAbs≤100000000000) (hb9:wl b.natAbs≤100000000000) :
  CB 42 #[(Value.agg #[.int .u64 (lo a.natAbs),.string (bg a.natAbs),.bool (a<0)]),(Value.agg #[.int .u64 (lo b.natAbs),.string (bg b.natAbs),.bool (b<0)])] w (.tuple #[(.agg #[.int .u64 (lo q.natAbs),.string (bg q.natAbs),.bool (q<0)]),(.agg #[.int .u64 (lo r.natAbs),.string (bg r.natAbs),.bool (r<0)]),.bool true]):=by
 go_enter Tryz.func42,Tryz.ntmps42
 have I:=lh_ (hp0 w)
 refine kSl fun K O=>?_;go_wp2
 refine kF_ O ((al3_ I).aL (w.heap.size+1+1+1)) fun Wx0 J=>?_;clear O K
 clear I;have I:=J;clear J
 generalize w.heap.size+1+1+1=gx3 at *
 generalize w.heap.size+1+1=gx2 at *
 generalize w.heap.size+1=gx1 at *
 obtain ⟨u1,HZ1⟩:=ex_ (a.natAbs / b.natAbs)
 have su1:wl u1≤100000000000:=by rw [← HZ1.out];have:=qo3 a.natAbs b.natAbs;omega
 have HZ2:Hid (a.natAbs % b.natAbs=0):=lh_ (HM.out)
 have su2:wl (0)≤100000000000:=by have e:=HZ2.out;first|omega|(rw [← e];have:=qr4 a.natAbs b.natAbs;omega)|exact wl_le.2 (by decide +kernel)
 have lx0:=kc0_ I
 have lx1:=kc1_ I
 refine qr5 fun K O T Y=>?_
 iterate 6 refine tk ?_
 refine ck Tryz.call43 (fun w' hw=>qM9 a.natAbs b.natAbs u1 (0) _ HZ1.out HZ2.out zb8_ om om) ?_
 iterate 4 refine tk ?_
 refine nlS Y I fun vw1 J=>?_
 clear Y T I lx0 lx1
 go_wp2
 refine kF_ O (((J.out).aL (vw1.heap.size)).aL (vw1.heap.size+1)) fun Wx1 I=>?_;clear O K
 clear J
 generalize vw1.heap.size+1=gx6 at *
 generalize vw1.heap.size=gx5 at *
 refine wp_seq ?_
 refine ks2_ fun K O T Y=>?_
 refine tk2_ ?_
 refine nz Y I O ?_;clear Y T I O K;intro vw2 I
 refine wp_cond_false (by rfl) ?_
 refine wp_skip ?_
 show Code.wp _ _ _ _ _
 have hd1:decide (a<0)=true:=decide_eq_true zb8_
 have hd2:decide (b<0)=false:=decide_eq_false zb8_
 have hd3:decide (a<0)=true:=decide_eq_true zb8_
 have HZ3:Hid ((if true then -((u1:Nat):Int) else ((u1:Nat):Int))=q):=lh_ xA5
 have su3:wl q.natAbs≤100000000000:=by have e:=HZ3.out;first|omega|(rw [← e];split <;> simp <;> omega)
 have HZ4:Hid ((if true then -((0:Nat):Int) else ((0:Nat):Int))=r):=lh_ xj1
 have su4:wl r.natAbs≤100000000000:=by have e:=HZ4.out;first|omega|(rw [← e];split <;> simp <;> omega)
 have lx0:=kc0_ I
 have lx1:=kc1_ I
 have lx5:=kc4_ I
 have lx6:=kc5_ I
 refine kS fun K O=>?_
 refine pd6_ fun T Y=>?_
 iterate 9 refine tk ?_
 refine ck Tryz.call37 (fun w' hw=>qa7 true u1 q _ HZ3.out) ?_
 refine ck Tryz.call37 (fun w' hw=>qa7 true (0) r _ HZ4.out) ?_
 refine nlD Y I fun vw3 J=>?_
 clear Y T I lx0 lx1 lx5 lx6
 have lx2:=kc2_ J;have fx2:=kf2_ J
 have lx3:=kc3_ J;have fx3:=kf3_ J
 have r0:=Gr.refl vw3
 obtain ⟨d2_3,d3_2⟩:=J.out.ne 2 3 rfl rfl (by decide)
 go_wp2
 refine kO O ?_;clear O K
 clear r0 lx2 fx2 lx3 fx3 d2_3 d3_2
 refine fH ((((((((J.out).put2 2 0 rfl).put 2 2 _ rfl).put2 3 0 rfl).put 3 2 _ rfl).er 5).er 4).er 0) fun Wx4 I=>?_
 clear J
 clear hd1 hd2 hd3
 refine wp_seq ?_
 have hd4:decide (r<0)=false:=decide_eq_false zb8_
 have lx3:=kc2_ I
 refine ks2_ fun K O T Y=>?_
 refine tk2_ ?_
 refine nz Y I O ?_;clear Y T I lx3 O K;intro vw4 I
 clear hd4
 refine wp_cond_false (by rfl) ?_
 refine wp_skip ?_
 show Code.wp _ _ _ _ _
 have lx2:=kc1_ I;have fx2:=kf1_ I
 have lx3:=kc2_ I;have fx3:=kf2_ I
 have r0:=Gr.refl vw4
 obtain ⟨d2_3,d3_2⟩:=I.out.ne 1 2 rfl rfl (by decide)
 refine kS fun K O=>?_
 go_region
 go_wp2
 refine kO O ?_;clear O K
 clear r0 lx2 fx2 lx3 fx3 d2_3 d3_2
 refine fH (((((((I.out).put2 1 0 rfl).put 1 2 _ rfl).put2 2 0 rfl).put 2 2 _ rfl).er 0).gr ((Below.refl _ _).drew)) fun Wx8 J=>?_
 clear I;have I:=J;clear J
 refine wp_ret ?_
 try simp only [Exit.then,Exit.inBlock]
 have lx2:=kc0_ I
 have lx3:=kc1_ I
 have r0:=Gr.refl Wx8
 exact bR ⟨rfl,I.out.1⟩ qP3
theorem xu7 (a b q r:Int) (w:World) (HQ:Hid (a / b=q)) (HR:Hid (a % b=r)) (HBS:Hid (b<0)) (H0:Hid (a<0)) (HM:Hid (a.natAbs % b.natAbs=0)) (HRS:Hid (0≤r)) (ha9:wl a.natAbs≤100000000000) (hb9:wl b.natAbs≤100000000000) :
  CB 42 #[(Value.agg #[.int .u64 (lo a.natAbs),.string (bg a.natAbs),.bool (a<0)]),(Value.agg #[.int .u64 (lo b.natAbs),.string (bg b.natAbs),.bool (b<0)])] w (.tuple #[(.agg #[.int .u64 (lo q.natAbs),.string (bg q.natAbs),.bool (q<0)]),(.agg #[.int .u64 (lo r.natAbs),.string (bg r.natAbs),.bool (r<0)]),.bool true]):=by
 go_enter Tryz.func42,Tryz.ntmps42
 have I:=lh_ (hp0 w)
 refine kSl fun K O=>?_;go_wp2
 refine kF_ O ((al3_ I).aL (w.heap.size+1+1+1)) fun Wx0 J=>?_;clear O K
 clear I;have I:=J;clear J
 generalize w.heap.size+1+1+1=gx3 at *
 generalize w.heap.size+1+1=gx2 at *
 generalize w.heap.size+1=gx1 at *
 obtain ⟨u1,HZ1⟩:=ex_ (a.natAbs / b.natAbs)
 have su1:wl u1≤100000000000:=by rw [← HZ1.out];have:=qo3 a.natAbs b.natAbs;omega
 have HZ2:Hid (a.natAbs % b.natAbs=0):=lh_ (HM.out)
 have su2:wl (0)≤100000000000:=by have e:=HZ2.out;first|omega|(rw [← e];have:=qr4 a.natAbs b.natAbs;omega)|exact wl_le.2 (by decide +kernel)
 have lx0:=kc0_ I
 have lx1:=kc1_ I
 refine qr5 fun K O T Y=>?_
 iterate 6 refine tk ?_
 refine ck Tryz.call43 (fun w' hw=>qM9 a.natAbs b.natAbs u1 (0) _ HZ1.out HZ2.out zb8_ om om) ?_
 iterate 4 refine tk ?_
 refine nlS Y I fun vw1 J=>?_
 clear Y T I lx0 lx1
 go_wp2
 refine kF_ O (((J.out).aL (vw1.heap.size)).aL (vw1.heap.size+1)) fun Wx1 I=>?_;clear O K
 clear J
 generalize vw1.heap.size+1=gx6 at *
 generalize vw1.heap.size=gx5 at *
 refine wp_seq ?_
 refine ks2_ fun K O T Y=>?_
 refine tk2_ ?_
 refine nz Y I O ?_;clear Y T I O K;intro vw2 I
 refine wp_cond_false (by rfl) ?_
 refine wp_skip ?_
 show Code.wp _ _ _ _ _
 have hd1:decide (a<0)=true:=decide_eq_true zb8_
 have hd2:decide (b<0)=true:=decide_eq_true zb8_
 have hd3:decide (a<0)=true:=decide_eq_true zb8_
 have HZ3:Hid ((if false then -((u1:Nat):Int) else ((u1:Nat):Int))=q):=lh_ xA6
 have su3:wl q.natAbs≤100000000000:=by have e:=HZ3.out;first|omega|(rw [← e];split <;> simp <;> omega)
 have HZ4:Hid ((if true then -((0:Nat):Int) else ((0:Nat):Int))=r):=lh_ xj1
 have su4:wl r.natAbs≤100000000000:=by have e:=HZ4.out;first|omega|(rw [← e];split <;> simp <;> omega)
 have lx0:=kc0_ I
 have lx1:=kc1_ I
 have lx5:=kc4_ I
 have lx6:=kc5_ I
 refine kS fun K O=>?_
 refine pd6_ fun T Y=>?_
 iterate 9 refine tk ?_
 refine ck Tryz.call37 (fun w' hw=>qa7 false u1 q _ HZ3.out) ?_
 refine ck Tryz.call37 (fun w' hw=>qa7 true (0) r _ HZ4.out) ?_
 refine nlD Y I fun vw3 J=>?_
 clear Y T I lx0 lx1 lx5 lx6
 have lx2:=kc2_ J;have fx2:=kf2_ J
 have lx3:=kc3_ J;have fx3:=kf3_ J
 have r0:=Gr.refl vw3
 obtain ⟨d2_3,d3_2⟩:=J.out.ne 2 3 rfl rfl (by decide)
 go_wp2
 refine kO O ?_;clear O K
 clear r0 lx2 fx2 lx3 fx3 d2_3 d3_2
 refine fH ((((((((J.out).put2 2 0 rfl).put 2 2 _ rfl).put2 3 0 rfl).put 3 2 _ rfl).er 5).er 4).er 0) fun Wx4 I=>?_
 clear J
 clear hd1 hd2 hd3
 refine wp_seq ?_
 have hd4:decide (r<0)=false:=decide_eq_false zb8_
 have lx3:=kc2_ I
 refine ks2_ fun K O T Y=>?_
 refine tk2_ ?_
 refine nz Y I O ?_;clear Y T I lx3 O K;intro vw4 I
 clear hd4
 refine wp_cond_false (by rfl) ?_
 refine wp_skip ?_
 show Code.wp _ _ _ _ _
 have lx2:=kc1_ I;have fx2:=kf1_ I
 have lx3:=kc2_ I;have fx3:=kf2_ I
 have r0:=Gr.refl vw4
 obtain ⟨d2_3,d3_2⟩:=I.out.ne 1 2 rfl rfl (by decide)
 refine kS fun K O=>?_
 go_region
 go_wp2
 refine kO O ?_;clear O K
 clear r0 lx2 fx2 lx3 fx3 d2_3 d3_2
 refine fH (((((((I.out).put2 1 0 rfl).put 1 2 _ rfl).put2 2 0 rfl).put 2 2 _ rfl).er 0).gr ((Below.refl _ _).drew)) fun Wx8 J=>?_
 clear I;have I:=J;clear J
 refine wp_ret ?_
 try simp only [Exit.then,Exit.inBlock]
 have lx2:=kc0_ I
 have lx3:=kc1_ I
 have r0:=Gr.refl Wx8
 exact bR ⟨rfl,I.out.1⟩ qP3
theorem xu4 (a b q r:Int) (w:World) (HQ:Hid (a / b=q)) (HR:Hid (a % b=r)) (HBS:Hid (0<b)) (H0:Hid (a<0)) (m:Int) (HM:Hid (-((a.natAbs % b.natAbs:Nat):Int)=m)) (HMS:Hid (m<0)) (HN:Hid (a.natAbs % b.natAbs≠0)) (HRS:Hid (0≤r)) (ha9:wl a.natAbs≤100000000000) (hb9:wl b.natAbs≤100000000000) :
  CB 42 #[(Value.agg #[.int .u64 (lo a.natAbs),.string (bg a.natAbs),.bool (a<0)]),(Value.agg #[.int .u64 (lo b.natAbs),.string (bg b.natAbs),.bool (b<0)])] w (.tuple #[(.agg #[.int .u64 (lo q.natAbs),.string (bg q.natAbs),.bool (q<0)]),(.agg #[.int .u64 (lo r.natAbs),.string (bg r.natAbs),.bool (r<0)]),.bool true]):=by
 go_enter Tryz.func42,Tryz.ntmps42
 have I:=lh_ (hp0 w)
 refine kSl fun K O=>?_;go_wp2
 refine kF_ O ((al3_ I).aL (w.heap.size+1+1+1)) fun Wx0 J=>?_;clear O K
 clear I;have I:=J;clear J
 generalize w.heap.size+1+1+1=gx3 at *
 generalize w.heap.size+1+1=gx2 at *
 generalize w.heap.size+1=gx1 at *
 obtain ⟨u1,HZ1⟩:=ex_ (a.natAbs / b.natAbs)
 have su1:wl u1≤100000000000:=by rw [← HZ1.out];have:=qo3 a.natAbs b.natAbs;omega
 obtain ⟨u2,HZ2⟩:=ex_ (a.natAbs % b.natAbs)
 have su2:wl u2≤100000000000:=by rw [← HZ2.out];have:=qr4 a.natAbs b.natAbs;omega
 have lx0:=kc0_ I
 have lx1:=kc1_ I
 refine qr5 fun K O T Y=>?_
 iterate 6 refine tk ?_
 refine ck Tryz.call43 (fun w' hw=>qM9 a.natAbs b.natAbs u1 u2 _ HZ1.out HZ2.out zb5_ om om) ?_
 iterate 4 refine tk ?_
 refine nlS Y I fun vw1 J=>?_
 clear Y T I lx0 lx1
 go_wp2
 refine kF_ O (((J.out).aL (vw1.heap.size)).aL (vw1.heap.size+1)) fun Wx1 I=>?_;clear O K
 clear J
 generalize vw1.heap.size+1=gx6 at *
 generalize vw1.heap.size=gx5 at *
 refine wp_seq ?_
 refine ks2_ fun K O T Y=>?_
 refine tk2_ ?_
 refine nz Y I O ?_;clear Y T I O K;intro vw2 I
 refine wp_cond_false (by rfl) ?_
 refine wp_skip ?_
 show Code.wp _ _ _ _ _
 have hd1:decide (a<0)=true:=decide_eq_true zb5_
 have hd2:decide (b<0)=false:=decide_eq_false zb5_
 have hd3:decide (a<0)=true:=decide_eq_true zb5_
 obtain ⟨u3,HZ3⟩:=ex_ ((if true then -((u1:Nat):Int) else ((u1:Nat):Int)))
 have su3:wl u3.natAbs≤100000000000:=by rw [← HZ3.out];split <;> simp <;> omega
 have HZ4:Hid ((if true then -((u2:Nat):Int) else ((u2:Nat):Int))=m):=lh_ (by rw [← HM.out,← HZ2.out];rfl)
 have su4:wl m.natAbs≤100000000000:=by have e:=HZ4.out;first|omega|(rw [← e];split <;> simp <;> omega)
 have lx0:=kc0_ I
 have lx1:=kc1_ I
 have lx5:=kc4_ I
 have lx6:=kc5_ I
 refine kS fun K O=>?_
 refine pd6_ fun T Y=>?_
 iterate 9 refine tk ?_
 refine ck Tryz.call37 (fun w' hw=>qa7 true u1 u3 _ HZ3.out) ?_
 refine ck Tryz.call37 (fun w' hw=>qa7 true u2 m _ HZ4.out) ?_
 refine nlD Y I fun vw3 J=>?_
 clear Y T I lx0 lx1 lx5 lx6
 have lx2:=kc2_ J;have fx2:=kf2_ J
 have lx3:=kc3_ J;have fx3:=kf3_ J
 have r0:=Gr.refl vw3
 obtain ⟨d2_3,d3_2⟩:=J.out.ne 2 3 rfl rfl (by decide)
 go_wp2
 refine kO O ?_;clear O K
 clear r0 lx2 fx2 lx3 fx3 d2_3 d3_2
 refine fH ((((((((J.out).put2 2 0 rfl).put 2 2 _ rfl).put2 3 0 rfl).put 3 2 _ rfl).er 5).er 4).er 0) fun Wx4 I=>?_
 clear J
 clear hd1 hd2 hd3
 refine wp_seq ?_
 have hd4:decide (m<0)=true:=decide_eq_true xs_
 have lx3:=kc2_ I
 refine ks2_ fun K O T Y=>?_
 refine tk2_ ?_
 refine nz Y I O ?_;clear Y T I lx3 O K;intro vw4 I
 clear hd4
 refine wp_cond_true (by rfl) ?_
 have HZ5:Hid ((if false then -((Int.natAbs b:Nat):Int) else ((Int.natAbs b:Nat):Int))=b):=lh_ (by have h0:=H0.out;have hb:=HBS.out;have hr:=HRS.out;have hm:=HMS.out;simp;omega)
 have su5:wl b.natAbs≤100000000000:=by have e:=HZ5.out;first|omega|(rw [← e];split <;> simp <;> omega)
 have HZ6:Hid (m+(b)=r):=lh_ xt3
 have su6:wl r.natAbs≤100000000001:=by have e:=HZ6.out;first|omega|(rw [← e];have:=qm1 m b;omega)
 have lx1:=kc0_ I
 have lx3:=kc2_ I
 refine kS fun K O=>?_
 refine pd7_ fun T Y=>?_
 iterate 4 refine tk ?_
 refine ck Tryz.call37 (fun w' hw=>qa7 false b.natAbs b _ HZ5.out) ?_
 refine ck Tryz.call41 (fun w' hw=>qP5 m b r _ HZ6.out om om) ?_
 refine nlD Y I fun vw5 J=>?_
 clear Y T I lx1 lx3
 have lx3:=kc2_ J;have fx3:=kf2_ J
 have r0:=Gr.refl vw5
 go_wp2
 refine kO O ?_;clear O K
 clear r0 lx3 fx3
 refine fH (((J.out).put2 2 0 rfl).put 2 2 _ rfl) fun Wx6 I=>?_
 clear J
 have su7:wl (Int.natAbs (1))≤1:=wl_le.2 (by decide +kernel)
 have HZ8:Hid (u3 - (1)=q):=lh_ (by have h0:=H0.out;have hb:=HBS.out;have hr:=HRS.out;have hm:=HMS.out;rw [← HQ.out,← HZ3.out,← HZ1.out];exact dc (a:=a) (b:=b) false om (decide_eq_false om) om HN.out)
 have su8:wl q.natAbs≤100000000001:=by have e:=HZ8.out;first|omega|(rw [← e];have:=xa2 u3 (1);omega)
 have lx1:=kc0_ I
 have lx2:=kc1_ I
 refine kL fun K O=>?_
 refine pd8_ fun T Y=>?_
 refine tk2_ ?_
 refine ck Tryz.call101 (fun w' hw=>xa_ b (1) _ xA2) ?_
 refine ck Tryz.call23 (fun w' hw=>qt6 (1) _ (by decide) (by decide)) ?_
 refine ck Tryz.call98 (fun w' hw=>xB3 u3 (1) q _ HZ8.out om om) ?_
 refine nlD Y I fun vw6 J=>?_
 clear Y T I lx1 lx2
 have lx2:=kc1_ J;have fx2:=kf1_ J
 have r0:=Gr.refl vw6
 go_wp2
 refine kO O ?_;clear O K
 clear r0 lx2 fx2
 refine fH ((((J.out).put2 1 0 rfl).put 1 2 _ rfl).er 0) fun Wx7 I=>?_
 clear J
 have lx2:=kc0_ I;have fx2:=kf0_ I
 have lx3:=kc1_ I;have fx3:=kf1_ I
 have r0:=Gr.refl Wx7
 obtain ⟨d2_3,d3_2⟩:=I.out.ne 0 1 rfl rfl (by decide)
 refine kS fun K O=>?_
 go_region
 go_wp2
 refine kO O ?_;clear O K
 clear r0 lx2 fx2 lx3 fx3 d2_3 d3_2
 refine fH ((((((I.out).put2 0 0 rfl).put 0 2 _ rfl).put2 1 0 rfl).put 1 2 _ rfl).gr ((Below.refl _ _).drew)) fun Wx8 J=>?_
 clear I;have I:=J;clear J
 refine wp_ret ?_
 try simp only [Exit.then,Exit.inBlock]
 have lx2:=kc0_ I
 have lx3:=kc1_ I
 have r0:=Gr.refl Wx8
 exact bR ⟨rfl,I.out.1⟩ qP3
theorem xu3 (a b q r:Int) (w:World) (HQ:Hid (a / b=q)) (HR:Hid (a % b=r)) (HBS:Hid (b<0)) (H0:Hid (a<0)) (m:Int) (HM:Hid (-((a.natAbs % b.natAbs:Nat):Int)=m)) (HMS:Hid (m<0)) (HN:Hid (a.natAbs % b.natAbs≠0)) (HRS:Hid (0≤r)) (ha9:wl a.natAbs≤100000000000) (hb9:wl b.natAbs≤100000000000) :
  CB 42 #[(Value.agg #[.int .u64 (lo a.natAbs),.string (bg a.natAbs),.bool (a<0)]),(Value.agg #[.int .u64 (lo b.natAbs),.string (bg b.natAbs),.bool (b<0)])] w (.tuple #[(.agg #[.int .u64 (lo q.natAbs),.string (bg q.natAbs),.bool (q<0)]),(.agg #[.int .u64 (lo r.natAbs),.string (bg r.natAbs),.bool (r<0)]),.bool true]):=by
 go_enter Tryz.func42,Tryz.ntmps42
 have I:=lh_ (hp0 w)
 refine kSl fun K O=>?_;go_wp2
 refine kF_ O ((al3_ I).aL (w.heap.size+1+1+1)) fun Wx0 J=>?_;clear O K
 clear I;have I:=J;clear J
 generalize w.heap.size+1+1+1=gx3 at *
 generalize w.heap.size+1+1=gx2 at *
 generalize w.heap.size+1=gx1 at *
 obtain ⟨u1,HZ1⟩:=ex_ (a.natAbs / b.natAbs)
 have su1:wl u1≤100000000000:=by rw [← HZ1.out];have:=qo3 a.natAbs b.natAbs;omega
 obtain ⟨u2,HZ2⟩:=ex_ (a.natAbs % b.natAbs)
 have su2:wl u2≤100000000000:=by rw [← HZ2.out];have:=qr4 a.natAbs b.natAbs;omega
 have lx0:=kc0_ I
 have lx1:=kc1_ I
 refine qr5 fun K O T Y=>?_
 iterate 6 refine tk ?_
 refine ck Tryz.call43 (fun w' hw=>qM9 a.natAbs b.natAbs u1 u2 _ HZ1.out HZ2.out zb5_ om om) ?_
 iterate 4 refine tk ?_
 refine nlS Y I fun vw1 J=>?_
 clear Y T I lx0 lx1
 go_wp2
 refine kF_ O (((J.out).aL (vw1.heap.size)).aL (vw1.heap.size+1)) fun Wx1 I=>?_;clear O K
 clear J
 generalize vw1.heap.size+1=gx6 at *
 generalize vw1.heap.size=gx5 at *
 refine wp_seq ?_
 refine ks2_ fun K O T Y=>?_
 refine tk2_ ?_
 refine nz Y I O ?_;clear Y T I O K;intro vw2 I
 refine wp_cond_false (by rfl) ?_
 refine wp_skip ?_
 show Code.wp _ _ _ _ _
 have hd1:decide (a<0)=true:=decide_eq_true zb5_
 have hd2:decide (b<0)=true:=decide_eq_true zb5_
 have hd3:decide (a<0)=true:=decide_eq_true zb5_
 obtain ⟨u3,HZ3⟩:=ex_ ((if false then -((u1:Nat):Int) else ((u1:Nat):Int)))
 have su3:wl u3.natAbs≤100000000000:=by rw [← HZ3.out];split <;> simp <;> omega
 have HZ4:Hid ((if true then -((u2:Nat):Int) else ((u2:Nat):Int))=m):=lh_ (by rw [← HM.out,← HZ2.out];rfl)
 have su4:wl m.natAbs≤100000000000:=by have e:=HZ4.out;first|omega|(rw [← e];split <;> simp <;> omega)
 have lx0:=kc0_ I
 have lx1:=kc1_ I
 have lx5:=kc4_ I
 have lx6:=kc5_ I
 refine kS fun K O=>?_
 refine pd6_ fun T Y=>?_
 iterate 9 refine tk ?_
 refine ck Tryz.call37 (fun w' hw=>qa7 false u1 u3 _ HZ3.out) ?_
 refine ck Tryz.call37 (fun w' hw=>qa7 true u2 m _ HZ4.out) ?_
 refine nlD Y I fun vw3 J=>?_
 clear Y T I lx0 lx1 lx5 lx6
 have lx2:=kc2_ J;have fx2:=kf2_ J
 have lx3:=kc3_ J;have fx3:=kf3_ J
 have r0:=Gr.refl vw3
 obtain ⟨d2_3,d3_2⟩:=J.out.ne 2 3 rfl rfl (by decide)
 go_wp2
 refine kO O ?_;clear O K
 clear r0 lx2 fx2 lx3 fx3 d2_3 d3_2
 refine fH ((((((((J.out).put2 2 0 rfl).put 2 2 _ rfl).put2 3 0 rfl).put 3 2 _ rfl).er 5).er 4).er 0) fun Wx4 I=>?_
 clear J
 clear hd1 hd2 hd3
 refine wp_seq ?_
 have hd4:decide (m<0)=true:=decide_eq_true xs_
 have lx3:=kc2_ I
 refine ks2_ fun K O T Y=>?_
 refine tk2_ ?_
 refine nz Y I O ?_;clear Y T I lx3 O K;intro vw4 I
 clear hd4
 refine wp_cond_true (by rfl) ?_
 obtain ⟨u5,HZ5⟩:=ex_ ((if false then -((Int.natAbs b:Nat):Int) else ((Int.natAbs b:Nat):Int)))
 have su5:wl u5.natAbs≤100000000000:=by rw [← HZ5.out];split <;> simp <;> omega
 have HZ6:Hid (m+(u5)=r):=lh_ (by have h0:=H0.out;have hb:=HBS.out;have hr:=HRS.out;have hm:=HMS.out;have e5:=HZ5.out;simp at e5;rw [← HR.out,← (qt3 (a:=a) (b:=b) om om HN.out).1,HM.out];omega)
 have su6:wl r.natAbs≤100000000001:=by have e:=HZ6.out;first|omega|(rw [← e];have:=qm1 m u5;omega)
 have lx1:=kc0_ I
 have lx3:=kc2_ I
 refine kS fun K O=>?_
 refine pd7_ fun T Y=>?_
 iterate 4 refine tk ?_
 refine ck Tryz.call37 (fun w' hw=>qa7 false b.natAbs u5 _ HZ5.out) ?_
 refine ck Tryz.call41 (fun w' hw=>qP5 m u5 r _ HZ6.out om om) ?_
 refine nlD Y I fun vw5 J=>?_
 clear Y T I lx1 lx3
 have lx3:=kc2_ J;have fx3:=kf2_ J
 have r0:=Gr.refl vw5
 go_wp2
 refine kO O ?_;clear O K
 clear r0 lx3 fx3
 refine fH (((J.out).put2 2 0 rfl).put 2 2 _ rfl) fun Wx6 I=>?_
 clear J
 have su7:wl (Int.natAbs (-1))≤1:=wl_le.2 (by decide +kernel)
 have HZ8:Hid (u3 - (-1)=q):=lh_ (by have h0:=H0.out;have hb:=HBS.out;have hr:=HRS.out;have hm:=HMS.out;rw [← HQ.out,← HZ3.out,← HZ1.out];exact dc (a:=a) (b:=b) true om (decide_eq_true om) om HN.out)
 have su8:wl q.natAbs≤100000000001:=by have e:=HZ8.out;first|omega|(rw [← e];have:=xa2 u3 (-1);omega)
 have lx1:=kc0_ I
 have lx2:=kc1_ I
 refine kL fun K O=>?_
 refine pd8_ fun T Y=>?_
 refine tk2_ ?_
 refine ck Tryz.call101 (fun w' hw=>xa_ b (-1) _ (by have e9:(b)<(0:Int):=(by have h0:=H0.out;have hb:=HBS.out;have hr:=HRS.out;have hm:=HMS.out;first|exact ok|(simp only [← HZ5.out,← HZ3.out,← HZ2.out,← HZ1.out] <;> first|exact ok));exact qX_ e9)) ?_
 refine ck Tryz.call23 (fun w' hw=>qt6 (-1) _ (by decide) (by decide)) ?_
 refine ck Tryz.call98 (fun w' hw=>xB3 u3 (-1) q _ HZ8.out om om) ?_
 refine nlD Y I fun vw6 J=>?_
 clear Y T I lx1 lx2
 have lx2:=kc1_ J;have fx2:=kf1_ J
 have r0:=Gr.refl vw6
 go_wp2
 refine kO O ?_;clear O K
 clear r0 lx2 fx2
 refine fH ((((J.out).put2 1 0 rfl).put 1 2 _ rfl).er 0) fun Wx7 I=>?_
 clear J
 have lx2:=kc0_ I;have fx2:=kf0_ I
 have lx3:=kc1_ I;have fx3:=kf1_ I
 have r0:=Gr.refl Wx7
 obtain ⟨d2_3,d3_2⟩:=I.out.ne 0 1 rfl rfl (by decide)
 refine kS fun K O=>?_
 go_region
 go_wp2
 refine kO O ?_;clear O K
 clear r0 lx2 fx2 lx3 fx3 d2_3 d3_2
 refine fH ((((((I.out).put2 0 0 rfl).put 0 2 _ rfl).put2 1 0 rfl).put 1 2 _ rfl).gr ((Below.refl _ _).drew)) fun Wx8 J=>?_
 clear I;have I:=J;clear J
 refine wp_ret ?_
 try simp only [Exit.then,Exit.inBlock]
 have lx2:=kc0_ I
 have lx3:=kc1_ I
 have r0:=Gr.refl Wx8
 exact bR ⟨rfl,I.out.1⟩ qP3
theorem xE7 (a b q r:Int) (w:World) (hq:a / b=q) (hr:a % b=r) (h0:b≠0) (ha:wl a.natAbs≤100000000000) (hb:wl b.natAbs≤100000000000) :
  CB 42 #[(Value.agg #[.int .u64 (lo a.natAbs),.string (bg a.natAbs),.bool (a<0)]),(Value.agg #[.int .u64 (lo b.natAbs),.string (bg b.natAbs),.bool (b<0)])] w (.tuple #[(Value.agg #[.int .u64 (lo q.natAbs),.string (bg q.natAbs),.bool (q<0)]),(Value.agg #[.int .u64 (lo r.natAbs),.string (bg r.natAbs),.bool (r<0)]),.bool true]):=by
 have hr0:0≤r:=by rw [← hr];exact (qt7 a h0).2
 by_cases h1:0≤a
 ·rcases Int.lt_or_gt_of_ne h0 with h2|h2
  ·exact xu5 a b q r w (lh_ hq) (lh_ hr) (lh_ h2) (lh_ h1) (lh_ hr0) ha hb
  exact xu6 a b q r w (lh_ hq) (lh_ hr) (lh_ h2) (lh_ h1) (lh_ hr0) ha hb
 by_cases hm:a.natAbs % b.natAbs=0
 ·rcases Int.lt_or_gt_of_ne h0 with h2|h2
  ·exact xu7 a b q r w (lh_ hq) (lh_ hr) (lh_ h2) (lh_ om) (lh_ hm) (lh_ hr0) ha hb
  exact xu8 a b q r w (lh_ hq) (lh_ hr) (lh_ h2) (lh_ om) (lh_ hm) (lh_ hr0) ha hb
 rcases Int.lt_or_gt_of_ne h0 with h2|h2
 ·exact xu3 a b q r w (lh_ hq) (lh_ hr) (lh_ h2) (lh_ om) _ (lh_ rfl) (lh_ om) (lh_ hm) (lh_ hr0) ha hb
 exact xu4 a b q r w (lh_ hq) (lh_ hr) (lh_ h2) (lh_ om) _ (lh_ rfl) (lh_ om) (lh_ hm) (lh_ hr0) ha hb
end Go.Proofs.YtobojnodohjiaaaGreatDoor
