
/- decimals: ten, whole, by, rounded. -/
import Derived.Test.YtobojnodohjiaaaGreatDoorPV
import Derived.Test.YtobojnodohjiaaaGreatDoorFieldP
import Derived.Test.YtobojnodohjiaaaGreatDoorHp
set_option maxRecDepth 100000
set_option maxHeartbeats 16000000
set_option linter.unusedVariables false
set_option linter.unusedSimpArgs false
namespace Go.Proofs.YtobojnodohjiaaaGreatDoor
open Go.RowKit
attribute [local go_sem ↓] Go.wp_at_zero Go.wp_at_succ
attribute [local go_sem ↓] eq_nat eq_nat_zero eq_int
theorem qi3 {k:Nat} (h:k≤101):wl (10 ^ k)≤12:=Nat.le_trans (qa6 (Nat.pow_le_pow_right (by decide) h)) (qa2.2 (by decide +kernel))
def rnd (way:Int) (x:Rat):Int :=
 if way=1 then x.floor else if way=2 then x.ceil
 else if sgQ ((x - (x.floor:Rat))+(x - (x.floor:Rat)) - 1)<0∨(sgQ ((x - (x.floor:Rat))+(x - (x.floor:Rat)) - 1)=0∧x.floor % 2=0) then x.floor else x.ceil
theorem rnd1 (x:Rat):rnd 1 x=x.floor:=rfl
theorem rnd2 (x:Rat):rnd 2 x=x.ceil:=rfl
theorem qF9 (way:Int) (x:Rat):rnd way x=x.floor∨rnd way x=x.ceil:=by
 unfold rnd
 split
 ·exact .inl rfl
 split
 ·exact .inr rfl
 split
 ·exact .inl rfl
 exact .inr rfl
theorem qG9 (way:Int) (x:Rat):wl (rnd way x).natAbs≤sz x+1:=by
 rcases qF9 way x with h|h <;> rw [h]
 ·exact qg4 x
 exact qD3 x
def rdd (way:Int) (a:Rat) (k:Nat):Rat:=mkRat (rnd way (a*(((10 ^ k:Nat):Int):Rat))) (10 ^ k)
theorem qo5 {k:Nat} (h:k≤101):sz (((10 ^ k:Nat):Int):Rat)≤12:=by
 rw [qk4,Int.natAbs_natCast];have:=qi3 h;omega
theorem qb4 {way:Int} {a:Rat} {k M:Nat} (hk:k≤101) (h:sz a≤M):sz (rdd way a k)≤M+13:=by
 have h1:=qe2 a ((((10 ^ k:Nat):Int):Rat))
 have h2:=qo5 hk
 have h3:=qG9 way (a*(((10 ^ k:Nat):Int):Rat))
 have h4:=qi3 hk
 exact qe1 om om om
theorem qi9 (k z:Nat) (w:World) (HZ:Hid (10 ^ k=z)) (hk:k≤101) :
  CB 264 #[.int .i64 (((k:Nat):Int))] w (.agg #[.int .u64 (lo z),.string (bg z)]):=by
 go_enter Tryz.func264,Tryz.ntmps264
 have I:=lh_ (hp0 w)
 refine kSl fun K O=>?_;go_wp2
 refine kF_ O (al1_ I) fun Wx0 J=>?_;clear O K
 clear I;have I:=J;clear J
 have su_0_1:wl 10≤1:=qa2.2 (by decide +kernel)
 have HZ1:Hid ((10) ^ k=z):=lh_ (HZ.out)
 have su1:wl z≤8192:=by have e:=HZ1.out;first|omega|(rw [← e];exact qm7 _ _ xr3)
 refine ks6_ fun K O T Y=>?_
 refine ck Tryz.call24 (fun w' hw=>nzof 10 _ (by decide)) ?_
 refine tk ?_
 refine ck Tryz.call164 (fun w' hw=>qF4 (10) k z _ HZ1.out om xr3 om) ?_
 refine tk3_ ?_
 refine nlS Y I fun vw1 J=>?_
 clear Y T I
 go_wp2
 refine kF_ O ((J.out).aL (vw1.heap.size)) fun Wx1 I=>?_;clear O K
 clear J
 generalize vw1.heap.size=gx2 at *
 have lx2:=kc1_ I
 refine ks1_ fun K O T Y=>?_
 refine tk ?_
 refine nlS Y I fun vw2 J=>?_
 clear Y T I lx2
 have lx0:=kc0_ J;have fx0:=kf0_ J
 have r0:=Gr.refl vw2
 go_wp2
 refine kO O ?_;clear O K
 clear r0 lx0 fx0
 refine fH (((J.out).put2 0 0 rfl).er 1) fun Wx2 I=>?_
 clear J
 refine wp_ret ?_
 try simp only [Exit.then,Exit.inBlock]
 have lx0:=kc0_ I
 have r0:=Gr.refl Wx2
 exact bR ⟨rfl,I.out.1⟩ (by simp [results,Tryz.results264,go_sem,lx0 _ r0])
theorem qd7 (n:Int) (z:Rat) (w:World) (HZ:Hid (((n:Int):Rat)=z)) (hn9:wl n.natAbs≤100000000000) :
  CB 263 #[(Value.agg #[.int .u64 (lo n.natAbs),.string (bg n.natAbs),.bool (n<0)])] w (.agg #[.int .u64 (lo z.num.natAbs),.string (bg z.num.natAbs),.bool (z.num<0),.int .u64 (lo (z.den - 1)),.string (bg (z.den - 1))]):=by
 go_enter Tryz.func263,Tryz.ntmps263
 have I:=lh_ (hp0 w)
 refine kSl fun K O=>?_;go_wp2
 refine kF_ O (al2_ I) fun Wx0 J=>?_;clear O K
 clear I;have I:=J;clear J
 generalize w.heap.size+1=gx1 at *
 have su_0_1:wl 1≤1:=qa2.2 (by decide +kernel)
 have HZ1:Hid (mkRat n (1)=z):=lh_ (by rw [xs2];exact HZ.out)
 have su1:sz z≤100000000000:=by have e:=HZ1.out;first|omega|(rw [← e];exact qe1 (k:=100000000000) om om (by decide))
 have lx0:=kc0_ I
 refine kS fun K O=>?_
 refine qa1 7 [6] [5] (fun _=>3) (fun _=>.cells #[.int .u64 0,.string ⟨#[]⟩,.bool false,.int .u64 0,.string ⟨#[]⟩] 36) [(true,0),(true,1),(true,2),(true,3),(true,4),(true,5)] (by kernel_rfl) (by kernel_rfl) zb0_ zb3_ (fun _ _ _ _ _ h=>h) (fun T Y=>?_)
 refine tk ?_
 refine ck Tryz.call24 (fun w' hw=>nzof 1 _ (by decide)) ?_
 refine ck Tryz.call102 (fun w' hw=>qi_ n (1) z _ (lh_ HZ1.out) ok om om) ?_
 refine tk3_ ?_
 refine qa0 (Y.out _ _ ?_)
 intro G vw1 hg hf
 simp only [puts,Act.put,lA,lB,lC,lD,lE,↓reduceIte,Nat.reduceEqDiff]
 have J:=lh_ (I.out.fr hg hf (zs:=[(#[.int .u64 0,.string ⟨#[]⟩,.bool false,.int .u64 0,.string ⟨#[]⟩],36)]) rfl (by decide) (by decide))
 simp only [zq1_,zq2_,zq3_,zq4_,lF,lG] at J
 clear Y T I hg hf lx0
 generalize G 6=gx3 at *
 have lx3:=kc2_ J;have fx3:=kf2_ J
 have r0:=Gr.refl vw1
 go_wp2
 refine kO O ?_;clear O K
 clear r0 lx3 fx3
 refine fH (((((J.out).put2 2 0 rfl).put2 2 2 rfl).put 2 4 _ rfl).er 0) fun Wx1 I=>?_
 clear J
 have lx3:=kc1_ I
 refine ks1_ fun K O T Y=>?_
 refine tk ?_
 refine nlS Y I fun vw2 J=>?_
 clear Y T I lx3
 have lx1:=kc0_ J;have fx1:=kf0_ J
 have r0:=Gr.refl vw2
 go_wp2
 refine kO O ?_;clear O K
 clear r0 lx1 fx1
 refine fH (((((J.out).put2 0 0 rfl).put2 0 2 rfl).put 0 4 _ rfl).er 1) fun Wx2 I=>?_
 clear J
 refine wp_ret ?_
 try simp only [Exit.then,Exit.inBlock]
 have lx1:=kc0_ I
 have r0:=Gr.refl Wx2
 exact bR ⟨rfl,I.out.1⟩ (by simp [results,Tryz.results263,go_sem,lx1 _ r0])
theorem xv1 (n:Int) (k p:Nat) (z:Rat) (w:World) (HP:Hid (10 ^ k=p)) (HP0:Hid (0<p)) (HZ:Hid (mkRat n p=z)) (hk:k≤101) (hn9:wl n.natAbs≤10000000000) :
  CB 240 #[(Value.agg #[.int .u64 (lo n.natAbs),.string (bg n.natAbs),.bool (n<0)]),.int .i64 (((k:Nat):Int))] w (.agg #[.int .u64 (lo z.num.natAbs),.string (bg z.num.natAbs),.bool (z.num<0),.int .u64 (lo (z.den - 1)),.string (bg (z.den - 1))]):=by
 go_enter Tryz.func240,Tryz.ntmps240
 have I:=lh_ (hp0 w)
 refine kSl fun K O=>?_;go_wp2
 refine kF_ O (al2_ I) fun Wx0 J=>?_;clear O K
 clear I;have I:=J;clear J
 generalize w.heap.size+1=gx1 at *
 have HZ1:Hid (10 ^ k=p):=lh_ (HP.out)
 have su1:wl p≤12:=by have e:=HZ1.out;first|omega|(rw [← e];exact qi3 om)
 have HZ2:Hid (mkRat n p=z):=lh_ (HZ.out)
 have su2:sz z≤10000000000:=by have e:=HZ2.out;first|omega|(rw [← e];exact qe1 (k:=10000000000) om om (by decide))
 have lx0:=kc0_ I
 refine kS fun K O=>?_
 refine qa1 8 [7] [6] (fun _=>5) (fun _=>.cells #[.int .u64 0,.string ⟨#[]⟩,.bool false,.int .u64 0,.string ⟨#[]⟩] 36) [(true,0),(true,1),(true,2),(true,3),(true,4),(true,5),(true,6)] (by kernel_rfl) (by kernel_rfl) zb0_ zb3_ (fun _ _ _ _ _ h=>h) (fun T Y=>?_)
 refine tk2_ ?_
 refine ck Tryz.call264 (fun w' hw=>qi9 k p _ (lh_ HZ1.out) om) ?_
 refine ck Tryz.call102 (fun w' hw=>qi_ n p z _ (lh_ HZ2.out) (by exact HP0.out) om om) ?_
 refine tk3_ ?_
 refine qa0 (Y.out _ _ ?_)
 intro G vw1 hg hf
 simp only [puts,Act.put,lA,lB,lC,lD,lE,↓reduceIte,Nat.reduceEqDiff]
 have J:=lh_ (I.out.fr hg hf (zs:=[(#[.int .u64 0,.string ⟨#[]⟩,.bool false,.int .u64 0,.string ⟨#[]⟩],36)]) rfl (by decide) (by decide))
 simp only [zq1_,zq2_,zq3_,zq4_,lF,lG] at J
 clear Y T I hg hf lx0
 generalize G 7=gx3 at *
 have lx3:=kc2_ J;have fx3:=kf2_ J
 have r0:=Gr.refl vw1
 go_wp2
 refine kO O ?_;clear O K
 clear r0 lx3 fx3
 refine fH (((((J.out).put2 2 0 rfl).put2 2 2 rfl).put 2 4 _ rfl).er 0) fun Wx1 I=>?_
 clear J
 have lx3:=kc1_ I
 refine ks1_ fun K O T Y=>?_
 refine tk ?_
 refine nlS Y I fun vw2 J=>?_
 clear Y T I lx3
 have lx1:=kc0_ J;have fx1:=kf0_ J
 have r0:=Gr.refl vw2
 go_wp2
 refine kO O ?_;clear O K
 clear r0 lx1 fx1
 refine fH (((((J.out).put2 0 0 rfl).put2 0 2 rfl).put 0 4 _ rfl).er 1) fun Wx2 I=>?_
 clear J
 refine wp_ret ?_
 try simp only [Exit.then,Exit.inBlock]
 have lx1:=kc0_ I
 have r0:=Gr.refl Wx2
 exact bR ⟨rfl,I.out.1⟩ (by simp [results,Tryz.results240,go_sem,lx1 _ r0])
theorem xF8 (a x y:Rat) (k p:Nat) (f c:Int) (w:World) (HP:Hid (10 ^ k=p)) (HY:Hid ((((p:Nat):Int):Rat)=y)) (HX:Hid (a*y=x)) (HFL:Hid (x.floor=f)) (HCE:Hid (x.ceil=c)) (hk:k≤100) (hs:sz a≤1000) (hsy:sz y≤12) :
  CB 239 #[(Value.agg #[.int .u64 (lo a.num.natAbs),.string (bg a.num.natAbs),.bool (a.num<0),.int .u64 (lo (a.den - 1)),.string (bg (a.den - 1))]),.int .i64 (((k:Nat):Int)),.int .i64 1] w (.tuple #[(.agg #[.int .u64 (lo f.natAbs),.string (bg f.natAbs),.bool (f<0)]),.int .i64 0]):=by
 go_enter Tryz.func239,Tryz.ntmps239
 have I:=lh_ (hp0 w)
 refine kSl fun K O=>?_;go_wp2
 refine kF_ O (al2_ I) fun Wx0 J=>?_;clear O K
 clear I;have I:=J;clear J
 generalize w.heap.size+1=gx1 at *
 refine wp_seq ?_
 refine wp_block ?_
 have hd1:¬ ((((k:Nat):Int))<0):=ok
 have hd2:¬ (k<0):=by have e:=hd1;omega
 refine ks3_ fun K O T Y=>?_
 refine tk3_ ?_
 refine nz Y I O ?_;clear Y T I O K;intro vw1 I
 clear hd1 hd2
 refine wp_cond_false (by rfl) ?_
 have hd3:¬ (100<(((k:Nat):Int))):=ok
 refine ks3_ fun K O T Y=>?_
 refine tk3_ ?_
 refine nz Y I O ?_;clear Y T I O K;intro vw2 I
 clear hd3
 refine wp_cond_false (by rfl) ?_
 refine wp_skip ?_
 show Code.wp _ _ _ _ _
 have HZ1:Hid (10 ^ k=p):=lh_ (HP.out)
 have su1:wl p≤12:=by have e:=HZ1.out;first|omega|(rw [← e];exact qi3 om)
 have HZ2:Hid ((if false then -((p:Nat):Int) else ((p:Nat):Int))=((p:Nat):Int)):=lh_ (by rfl)
 have su2:wl (Int.natAbs (((p:Nat):Int)))≤12:=by have e:=HZ2.out;first|omega|(rw [← e];split <;> simp <;> omega)
 have HZ3:Hid (((((p:Nat):Int):Int):Rat)=y):=lh_ (HY.out)
 have su3:sz y≤12:=by have e:=HZ3.out;first|omega|(rw [← e];rw [qk4];omega)
 have HZ4:Hid (a*(y)=x):=lh_ (HX.out)
 have su4:sz x≤1012:=by have e:=HZ4.out;first|omega|(rw [← e];have:=qe2 a y;omega)
 have lx0:=kc0_ I
 refine kS fun K O=>?_
 refine qa1 7 [6] [] (fun _=>8) (fun _=>.cells #[.int .u64 0,.string ⟨#[]⟩,.bool false,.int .u64 0,.string ⟨#[]⟩] 36) [(true,0),(true,1),(true,2),(true,3),(true,4),(true,5)] (by kernel_rfl) (by kernel_rfl) zb0_ (fun i hi=>by cases hi) (fun _ _ _ _ _ h=>h) (fun T Y=>?_)
 refine tk2_ ?_
 refine ck Tryz.call264 (fun w' hw=>qi9 k p _ (lh_ HZ1.out) om) ?_
 refine ck Tryz.call37 (fun w' hw=>qa8 false p (((p:Nat):Int)) _ HZ2.out) ?_
 refine ck Tryz.call263 (fun w' hw=>qd7 (((p:Nat):Int)) y _ (lh_ HZ3.out) om) ?_
 refine ck Tryz.call134 (fun w' hw=>qc5 a y x _ HZ4.out om om) ?_
 refine qa0 (Y.out _ _ ?_)
 intro G vw3 hg hf
 simp only [puts,Act.put,lA,lB,lC,lD,lE,↓reduceIte,Nat.reduceEqDiff]
 have J:=lh_ (I.out.fr hg hf (zs:=[(#[.int .u64 0,.string ⟨#[]⟩,.bool false,.int .u64 0,.string ⟨#[]⟩],36)]) rfl (by decide) (by decide))
 simp only [zq1_,zq2_,zq3_,zq4_,lF,lG] at J
 clear Y T I hg hf lx0
 generalize G 6=gx3 at *
 have lx3:=kc2_ J;have fx3:=kf2_ J
 have r0:=Gr.refl vw3
 go_wp2
 refine kO O ?_;clear O K
 clear r0 lx3 fx3
 refine fH (((((J.out).put2 2 0 rfl).put2 2 2 rfl).put 2 4 _ rfl).er 0) fun Wx5 I=>?_
 clear J
 have HZ5:Hid (x.floor=f):=lh_ (HFL.out)
 have su5:wl f.natAbs≤1013:=by have e:=HZ5.out;first|omega|(rw [← e];have:=qg4 x;omega)
 have lx3:=kc1_ I
 refine ks2_ fun K O T Y=>?_
 refine tk ?_
 refine ck Tryz.call142 (fun w' hw=>qf2 x f _ (lh_ HZ5.out) om) ?_
 refine nlS Y I fun vw4 J=>?_
 clear Y T I lx3
 go_wp2
 refine kF_ O ((J.out).aL (vw4.heap.size)) fun Wx6 I=>?_;clear O K
 clear J
 generalize vw4.heap.size=gx4 at *
 refine wp_seq ?_
 refine ks1_ fun K O T Y=>?_
 refine tk ?_
 refine nz Y I O ?_;clear Y T I O K;intro vw5 I
 refine wp_block ?_
 refine wp_seq ?_
 refine wp_block ?_
 refine wp_seq ?_
 refine wp_block ?_
 refine wp_seq ?_
 refine wp_block ?_
 refine wp_seq ?_
 refine wp_seq ?_
 refine ks2_ fun K O T Y=>?_
 refine tk2_ ?_
 refine nz Y I O ?_;clear Y T I O K;intro vw6 I
 refine wp_cond_false (by rfl) ?_
 refine wp_skip ?_
 show Code.wp _ _ _ _ _
 refine wp_seq ?_
 refine ks2_ fun K O T Y=>?_
 refine tk2_ ?_
 refine nz Y I O ?_;clear Y T I O K;intro vw7 I
 refine wp_cond_false (by rfl) ?_
 refine wp_skip ?_
 show Code.wp _ _ _ _ _
 refine ks2_ fun K O T Y=>?_
 refine tk2_ ?_
 refine nz Y I O ?_;clear Y T I O K;intro vw8 I
 refine wp_cond_true (by rfl) ?_
 refine wp_exit ?_
 show Code.wp _ _ _ _ _
 refine wp_seq ?_
 have lx4:=kc2_ I
 refine ks1_ fun K O T Y=>?_
 refine tk ?_
 refine nlS Y I fun vw9 J=>?_
 clear Y T I lx4
 have lx1:=kc0_ J;have fx1:=kf0_ J
 have r0:=Gr.refl vw9
 go_wp2
 refine kO O ?_;clear O K
 clear r0 lx1 fx1
 refine fH (((((J.out).put2 0 0 rfl).put 0 2 _ rfl).er 2).er 1) fun Wx17 I=>?_
 clear J
 refine wp_ret ?_
 try simp only [Exit.then,Exit.inBlock]
 have lx1:=kc0_ I
 have r0:=Gr.refl Wx17
 exact bR ⟨rfl,I.out.1⟩ qD5
theorem xF9 (a x y:Rat) (k p:Nat) (f c:Int) (w:World) (HP:Hid (10 ^ k=p)) (HY:Hid ((((p:Nat):Int):Rat)=y)) (HX:Hid (a*y=x)) (HFL:Hid (x.floor=f)) (HCE:Hid (x.ceil=c)) (hk:k≤100) (hs:sz a≤1000) (hsy:sz y≤12) :
  CB 239 #[(Value.agg #[.int .u64 (lo a.num.natAbs),.string (bg a.num.natAbs),.bool (a.num<0),.int .u64 (lo (a.den - 1)),.string (bg (a.den - 1))]),.int .i64 (((k:Nat):Int)),.int .i64 2] w (.tuple #[(.agg #[.int .u64 (lo c.natAbs),.string (bg c.natAbs),.bool (c<0)]),.int .i64 0]):=by
 go_enter Tryz.func239,Tryz.ntmps239
 have I:=lh_ (hp0 w)
 refine kSl fun K O=>?_;go_wp2
 refine kF_ O (al2_ I) fun Wx0 J=>?_;clear O K
 clear I;have I:=J;clear J
 generalize w.heap.size+1=gx1 at *
 refine wp_seq ?_
 refine wp_block ?_
 have hd1:¬ ((((k:Nat):Int))<0):=ok
 have hd2:¬ (k<0):=by have e:=hd1;omega
 refine ks3_ fun K O T Y=>?_
 refine tk3_ ?_
 refine nz Y I O ?_;clear Y T I O K;intro vw1 I
 clear hd1 hd2
 refine wp_cond_false (by rfl) ?_
 have hd3:¬ (100<(((k:Nat):Int))):=ok
 refine ks3_ fun K O T Y=>?_
 refine tk3_ ?_
 refine nz Y I O ?_;clear Y T I O K;intro vw2 I
 clear hd3
 refine wp_cond_false (by rfl) ?_
 refine wp_skip ?_
 show Code.wp _ _ _ _ _
 have HZ1:Hid (10 ^ k=p):=lh_ (HP.out)
 have su1:wl p≤12:=by have e:=HZ1.out;first|omega|(rw [← e];exact qi3 om)
 have HZ2:Hid ((if false then -((p:Nat):Int) else ((p:Nat):Int))=((p:Nat):Int)):=lh_ (by rfl)
 have su2:wl (Int.natAbs (((p:Nat):Int)))≤12:=by have e:=HZ2.out;first|omega|(rw [← e];split <;> simp <;> omega)
 have HZ3:Hid (((((p:Nat):Int):Int):Rat)=y):=lh_ (HY.out)
 have su3:sz y≤12:=by have e:=HZ3.out;first|omega|(rw [← e];rw [qk4];omega)
 have HZ4:Hid (a*(y)=x):=lh_ (HX.out)
 have su4:sz x≤1012:=by have e:=HZ4.out;first|omega|(rw [← e];have:=qe2 a y;omega)
 have lx0:=kc0_ I
 refine kS fun K O=>?_
 refine qa1 7 [6] [] (fun _=>8) (fun _=>.cells #[.int .u64 0,.string ⟨#[]⟩,.bool false,.int .u64 0,.string ⟨#[]⟩] 36) [(true,0),(true,1),(true,2),(true,3),(true,4),(true,5)] (by kernel_rfl) (by kernel_rfl) zb0_ (fun i hi=>by cases hi) (fun _ _ _ _ _ h=>h) (fun T Y=>?_)
 refine tk2_ ?_
 refine ck Tryz.call264 (fun w' hw=>qi9 k p _ (lh_ HZ1.out) om) ?_
 refine ck Tryz.call37 (fun w' hw=>qa8 false p (((p:Nat):Int)) _ HZ2.out) ?_
 refine ck Tryz.call263 (fun w' hw=>qd7 (((p:Nat):Int)) y _ (lh_ HZ3.out) om) ?_
 refine ck Tryz.call134 (fun w' hw=>qc5 a y x _ HZ4.out om om) ?_
 refine qa0 (Y.out _ _ ?_)
 intro G vw3 hg hf
 simp only [puts,Act.put,lA,lB,lC,lD,lE,↓reduceIte,Nat.reduceEqDiff]
 have J:=lh_ (I.out.fr hg hf (zs:=[(#[.int .u64 0,.string ⟨#[]⟩,.bool false,.int .u64 0,.string ⟨#[]⟩],36)]) rfl (by decide) (by decide))
 simp only [zq1_,zq2_,zq3_,zq4_,lF,lG] at J
 clear Y T I hg hf lx0
 generalize G 6=gx3 at *
 have lx3:=kc2_ J;have fx3:=kf2_ J
 have r0:=Gr.refl vw3
 go_wp2
 refine kO O ?_;clear O K
 clear r0 lx3 fx3
 refine fH (((((J.out).put2 2 0 rfl).put2 2 2 rfl).put 2 4 _ rfl).er 0) fun Wx5 I=>?_
 clear J
 have HZ5:Hid (x.floor=f):=lh_ (HFL.out)
 have su5:wl f.natAbs≤1013:=by have e:=HZ5.out;first|omega|(rw [← e];have:=qg4 x;omega)
 have lx3:=kc1_ I
 refine ks2_ fun K O T Y=>?_
 refine tk ?_
 refine ck Tryz.call142 (fun w' hw=>qf2 x f _ (lh_ HZ5.out) om) ?_
 refine nlS Y I fun vw4 J=>?_
 clear Y T I lx3
 go_wp2
 refine kF_ O ((J.out).aL (vw4.heap.size)) fun Wx6 I=>?_;clear O K
 clear J
 generalize vw4.heap.size=gx4 at *
 refine wp_seq ?_
 refine ks1_ fun K O T Y=>?_
 refine tk ?_
 refine nz Y I O ?_;clear Y T I O K;intro vw5 I
 refine wp_block ?_
 refine wp_seq ?_
 refine wp_block ?_
 refine wp_seq ?_
 refine wp_block ?_
 refine wp_seq ?_
 refine wp_block ?_
 refine wp_seq ?_
 refine wp_seq ?_
 refine ks2_ fun K O T Y=>?_
 refine tk2_ ?_
 refine nz Y I O ?_;clear Y T I O K;intro vw6 I
 refine wp_cond_false (by rfl) ?_
 refine wp_skip ?_
 show Code.wp _ _ _ _ _
 refine wp_seq ?_
 refine ks2_ fun K O T Y=>?_
 refine tk2_ ?_
 refine nz Y I O ?_;clear Y T I O K;intro vw7 I
 refine wp_cond_true (by rfl) ?_
 refine wp_exit ?_
 show Code.wp _ _ _ _ _
 refine wp_seq ?_
 have HZ6:Hid (x.ceil=c):=lh_ (HCE.out)
 have su6:wl c.natAbs≤1013:=by have e:=HZ6.out;first|omega|(rw [← e];have:=qD3 x;omega)
 have lx3:=kc1_ I
 refine ks2_ fun K O T Y=>?_
 refine tk ?_
 refine ck Tryz.call148 (fun w' hw=>qw2 x c _ (lh_ HZ6.out) om) ?_
 refine nlS Y I fun vw8 J=>?_
 clear Y T I lx3
 have lx1:=kc0_ J;have fx1:=kf0_ J
 have r0:=Gr.refl vw8
 go_wp2
 refine kO O ?_;clear O K
 clear r0 lx1 fx1
 refine fH ((((J.out).put2 0 0 rfl).put 0 2 _ rfl).er 1) fun Wx16 I=>?_
 clear J
 refine wp_ret ?_
 try simp only [Exit.then,Exit.inBlock]
 have lx1:=kc0_ I
 have r0:=Gr.refl Wx16
 exact bR ⟨rfl,I.out.1⟩ qD5
theorem xv7 (a x y:Rat) (k p:Nat) (f c:Int) (r:Rat) (o d:Int) (w:World) (HP:Hid (10 ^ k=p)) (HY:Hid ((((p:Nat):Int):Rat)=y)) (HX:Hid (a*y=x)) (HFL:Hid (x.floor=f)) (HCE:Hid (x.ceil=c)) (hk:k≤100) (hs:sz a≤1000) (hsy:sz y≤12) (HR:Hid (x - ((f:Int):Rat)=r)) (HT_:Hid (sgQ (r+r - (1:Rat))=o)) (HD:Hid (f % 2=d)) (HO:Hid (o = -1)) :
  CB 239 #[(Value.agg #[.int .u64 (lo a.num.natAbs),.string (bg a.num.natAbs),.bool (a.num<0),.int .u64 (lo (a.den - 1)),.string (bg (a.den - 1))]),.int .i64 (((k:Nat):Int)),.int .i64 3] w (.tuple #[(.agg #[.int .u64 (lo f.natAbs),.string (bg f.natAbs),.bool (f<0)]),.int .i64 0]):=by
 go_enter Tryz.func239,Tryz.ntmps239
 have I:=lh_ (hp0 w)
 refine kSl fun K O=>?_;go_wp2
 refine kF_ O (al2_ I) fun Wx0 J=>?_;clear O K
 clear I;have I:=J;clear J
 generalize w.heap.size+1=gx1 at *
 refine wp_seq ?_
 refine wp_block ?_
 have hd1:¬ ((((k:Nat):Int))<0):=ok
 have hd2:¬ (k<0):=by have e:=hd1;omega
 refine ks3_ fun K O T Y=>?_
 refine tk3_ ?_
 refine nz Y I O ?_;clear Y T I O K;intro vw1 I
 clear hd1 hd2
 refine wp_cond_false (by rfl) ?_
 have hd3:¬ (100<(((k:Nat):Int))):=ok
 refine ks3_ fun K O T Y=>?_
 refine tk3_ ?_
 refine nz Y I O ?_;clear Y T I O K;intro vw2 I
 clear hd3
 refine wp_cond_false (by rfl) ?_
 refine wp_skip ?_
 show Code.wp _ _ _ _ _
 have HZ1:Hid (10 ^ k=p):=lh_ (HP.out)
 have su1:wl p≤12:=by have e:=HZ1.out;first|omega|(rw [← e];exact qi3 om)
 have HZ2:Hid ((if false then -((p:Nat):Int) else ((p:Nat):Int))=((p:Nat):Int)):=lh_ (by rfl)
 have su2:wl (Int.natAbs (((p:Nat):Int)))≤12:=by have e:=HZ2.out;first|omega|(rw [← e];split <;> simp <;> omega)
 have HZ3:Hid (((((p:Nat):Int):Int):Rat)=y):=lh_ (HY.out)
 have su3:sz y≤12:=by have e:=HZ3.out;first|omega|(rw [← e];rw [qk4];omega)
 have HZ4:Hid (a*(y)=x):=lh_ (HX.out)
 have su4:sz x≤1012:=by have e:=HZ4.out;first|omega|(rw [← e];have:=qe2 a y;omega)
 have lx0:=kc0_ I
 refine kS fun K O=>?_
 refine qa1 7 [6] [] (fun _=>8) (fun _=>.cells #[.int .u64 0,.string ⟨#[]⟩,.bool false,.int .u64 0,.string ⟨#[]⟩] 36) [(true,0),(true,1),(true,2),(true,3),(true,4),(true,5)] (by kernel_rfl) (by kernel_rfl) zb0_ (fun i hi=>by cases hi) (fun _ _ _ _ _ h=>h) (fun T Y=>?_)
 refine tk2_ ?_
 refine ck Tryz.call264 (fun w' hw=>qi9 k p _ (lh_ HZ1.out) om) ?_
 refine ck Tryz.call37 (fun w' hw=>qa8 false p (((p:Nat):Int)) _ HZ2.out) ?_
 refine ck Tryz.call263 (fun w' hw=>qd7 (((p:Nat):Int)) y _ (lh_ HZ3.out) om) ?_
 refine ck Tryz.call134 (fun w' hw=>qc5 a y x _ HZ4.out om om) ?_
 refine qa0 (Y.out _ _ ?_)
 intro G vw3 hg hf
 simp only [puts,Act.put,lA,lB,lC,lD,lE,↓reduceIte,Nat.reduceEqDiff]
 have J:=lh_ (I.out.fr hg hf (zs:=[(#[.int .u64 0,.string ⟨#[]⟩,.bool false,.int .u64 0,.string ⟨#[]⟩],36)]) rfl (by decide) (by decide))
 simp only [zq1_,zq2_,zq3_,zq4_,lF,lG] at J
 clear Y T I hg hf lx0
 generalize G 6=gx3 at *
 have lx3:=kc2_ J;have fx3:=kf2_ J
 have r0:=Gr.refl vw3
 go_wp2
 refine kO O ?_;clear O K
 clear r0 lx3 fx3
 refine fH (((((J.out).put2 2 0 rfl).put2 2 2 rfl).put 2 4 _ rfl).er 0) fun Wx5 I=>?_
 clear J
 have HZ5:Hid (x.floor=f):=lh_ (HFL.out)
 have su5:wl f.natAbs≤1013:=by have e:=HZ5.out;first|omega|(rw [← e];have:=qg4 x;omega)
 have lx3:=kc1_ I
 refine ks2_ fun K O T Y=>?_
 refine tk ?_
 refine ck Tryz.call142 (fun w' hw=>qf2 x f _ (lh_ HZ5.out) om) ?_
 refine nlS Y I fun vw4 J=>?_
 clear Y T I lx3
 go_wp2
 refine kF_ O ((J.out).aL (vw4.heap.size)) fun Wx6 I=>?_;clear O K
 clear J
 generalize vw4.heap.size=gx4 at *
 refine wp_seq ?_
 refine ks1_ fun K O T Y=>?_
 refine tk ?_
 refine nz Y I O ?_;clear Y T I O K;intro vw5 I
 refine wp_block ?_
 refine wp_seq ?_
 refine wp_block ?_
 refine wp_seq ?_
 refine wp_block ?_
 refine wp_seq ?_
 refine wp_block ?_
 refine wp_seq ?_
 refine wp_seq ?_
 refine ks2_ fun K O T Y=>?_
 refine tk2_ ?_
 refine nz Y I O ?_;clear Y T I O K;intro vw6 I
 refine wp_cond_true (by rfl) ?_
 refine wp_exit ?_
 show Code.wp _ _ _ _ _
 obtain ⟨u6,HZ6⟩:=ex_ (((f:Int):Rat))
 have su6:sz u6≤1013:=by rw [← HZ6.out];rw [qk4];omega
 have HZ7:Hid (x - u6=r):=lh_ xr4
 have su7:sz r≤2026:=by have e:=HZ7.out;first|omega|(rw [← e];have:=ql8 x u6;omega)
 have lx3:=kc1_ I
 have lx4:=kc2_ I
 refine kS fun K O=>?_
 refine qa1 5 [4] [] (fun _=>10) (fun _=>.cells #[.int .u64 0,.string ⟨#[]⟩,.bool false,.int .u64 0,.string ⟨#[]⟩] 36) [(true,0),(true,1),(true,2),(true,3)] (by kernel_rfl) (by kernel_rfl) zb0_ (fun i hi=>by cases hi) (fun _ _ _ _ _ h=>h) (fun T Y=>?_)
 refine tk2_ ?_
 refine ck Tryz.call263 (fun w' hw=>qd7 f u6 _ (lh_ HZ6.out) om) ?_
 refine ck Tryz.call132 (fun w' hw=>qf0 x u6 r _ HZ7.out om om) ?_
 refine qa0 (Y.out _ _ ?_)
 intro G vw7 hg hf
 simp only [puts,Act.put,lA,lB,lC,lD,lE,↓reduceIte,Nat.reduceEqDiff]
 have J:=lh_ (I.out.fr hg hf (zs:=[(#[.int .u64 0,.string ⟨#[]⟩,.bool false,.int .u64 0,.string ⟨#[]⟩],36)]) rfl (by decide) (by decide))
 simp only [zq1_,zq2_,zq3_,zq4_,lF,lG] at J
 clear Y T I hg hf lx3 lx4
 generalize G 4=gx5 at *
 have lx5:=kc3_ J;have fx5:=kf3_ J
 have r0:=Gr.refl vw7
 go_wp2
 refine kO O ?_;clear O K
 clear r0 lx5 fx5
 refine fH ((((J.out).put2 3 0 rfl).put2 3 2 rfl).put 3 4 _ rfl) fun Wx11 I=>?_
 clear J
 have su8:wl (Int.natAbs (2))≤1:=qa2.2 (by decide +kernel)
 obtain ⟨u9,HZ9⟩:=ex_ (f / (2))
 have su9:wl u9.natAbs≤1014:=by rw [← HZ9.out];have:=qs5 f (2);omega
 have HZ10:Hid (f % (2)=d):=lh_ (HD.out)
 have su10:wl d.natAbs≤1013:=by have e:=HZ10.out;first|omega|(rw [← e];have:=qx_ f (2) qH2;omega)
 have lx4:=kc2_ I
 refine kS fun K O=>?_
 refine qa1 9 [7,8] [5,6] (fun i=>if i=7 then 11 else 12) (fun i=>if i=7 then .cells #[.int .u64 0,.string ⟨#[]⟩,.bool false] 34 else .cells #[.int .u64 0,.string ⟨#[]⟩,.bool false] 34) [(true,0),(true,1),(true,2),(true,3),(true,4),(true,5),(true,6)] (by kernel_rfl) (by kernel_rfl) zb1_ qV8 (fun _ _ _ _ _ h=>h) (fun T Y=>?_)
 refine tk ?_
 refine ck Tryz.call23 (fun w' hw=>qn9 (2) _ (by decide) (by decide)) ?_
 refine ck Tryz.call42 (fun w' hw=>xh9 f (2) u9 d _ HZ9.out HZ10.out qH2 om om) ?_
 iterate 4 refine tk ?_
 refine qa0 (Y.out _ _ ?_)
 intro G vw8 hg hf
 simp only [puts,Act.put,lA,lB,lC,lD,lE,↓reduceIte,Nat.reduceEqDiff]
 have J:=lh_ (I.out.fr hg hf (zs:=[(#[.int .u64 0,.string ⟨#[]⟩,.bool false],34),(#[.int .u64 0,.string ⟨#[]⟩,.bool false],34)]) rfl (by decide) (by decide))
 simp only [zq1_,zq2_,zq3_,zq4_,lF,lG] at J
 clear Y T I hg hf lx4
 generalize G 7=gx6 at *
 generalize G 8=gx7 at *
 have lx6:=kc4_ J;have fx6:=kf4_ J
 have lx7:=kc5_ J;have fx7:=kf5_ J
 have r0:=Gr.refl vw8
 obtain ⟨d6_7,d7_6⟩:=J.out.ne 4 5 rfl rfl (by decide)
 go_wp2
 refine kO O ?_;clear O K
 clear r0 lx6 fx6 lx7 fx7 d6_7 d7_6
 refine fH ((((((J.out).put2 4 0 rfl).put 4 2 _ rfl).put2 5 0 rfl).put 5 2 _ rfl).er 4) fun Wx12 I=>?_
 clear J
 obtain ⟨u11,HZ11⟩:=ex_ (r+(r))
 have su11:sz u11≤4053:=by rw [← HZ11.out];have:=qt5 r r;omega
 have HZ12:Hid (((1:Int):Rat)=(1:Rat)):=lh_ (by decide +kernel)
 have su12:sz ((1:Rat))≤2:=qc9 (qa2.2 (by decide +kernel)) (qa2.2 (by decide +kernel))
 have lx5:=kc3_ I
 refine ks6_ fun K O T Y=>?_
 refine tk2_ ?_
 refine ck Tryz.call130 (fun w' hw=>ql0 r r u11 _ HZ11.out om om) ?_
 refine ck Tryz.call147 (fun w' hw=>qb9 (1) (1:Rat) _ HZ12.out om om) ?_
 refine ck Tryz.call140 (fun w' hw=>qc1 u11 (1:Rat) (-1) _ xq9 om om) ?_
 refine tk ?_
 refine nzR Y O (fun w2 hg=>(I.out.gr hg).er 3) ?_;clear Y T I lx5 O K;intro Wx13 I
 have lx7:=kc3_ I
 refine qh4 fun K O T Y=>?_
 refine tk3_ ?_
 iterate 7 refine sk ?_
 refine tk ?_
 refine nzR Y O (fun w2 hg=>(I.out.gr hg).er 3) ?_;clear Y T I lx7 O K;intro Wx14 I
 refine wp_cond_true (by rfl) ?_
 have lx4:=kc2_ I
 refine ks1_ fun K O T Y=>?_
 refine tk ?_
 refine nlS Y I fun vw11 J=>?_
 clear Y T I lx4
 have lx1:=kc0_ J;have fx1:=kf0_ J
 have r0:=Gr.refl vw11
 go_wp2
 refine kO O ?_;clear O K
 clear r0 lx1 fx1
 refine fH (((J.out).put2 0 0 rfl).put 0 2 _ rfl) fun Wx15 I=>?_
 clear J
 refine wp_ret ?_
 try simp only [Exit.then,Exit.inBlock]
 have lx1:=kc0_ I
 have r0:=Gr.refl Wx15
 exact bR ⟨rfl,I.out.1⟩ qD5
theorem xv6 (a x y:Rat) (k p:Nat) (f c:Int) (r:Rat) (o d:Int) (w:World) (HP:Hid (10 ^ k=p)) (HY:Hid ((((p:Nat):Int):Rat)=y)) (HX:Hid (a*y=x)) (HFL:Hid (x.floor=f)) (HCE:Hid (x.ceil=c)) (hk:k≤100) (hs:sz a≤1000) (hsy:sz y≤12) (HR:Hid (x - ((f:Int):Rat)=r)) (HT_:Hid (sgQ (r+r - (1:Rat))=o)) (HD:Hid (f % 2=d)) (HO:Hid (o=1)) :
  CB 239 #[(Value.agg #[.int .u64 (lo a.num.natAbs),.string (bg a.num.natAbs),.bool (a.num<0),.int .u64 (lo (a.den - 1)),.string (bg (a.den - 1))]),.int .i64 (((k:Nat):Int)),.int .i64 3] w (.tuple #[(.agg #[.int .u64 (lo c.natAbs),.string (bg c.natAbs),.bool (c<0)]),.int .i64 0]):=by
 go_enter Tryz.func239,Tryz.ntmps239
 have I:=lh_ (hp0 w)
 refine kSl fun K O=>?_;go_wp2
 refine kF_ O (al2_ I) fun Wx0 J=>?_;clear O K
 clear I;have I:=J;clear J
 generalize w.heap.size+1=gx1 at *
 refine wp_seq ?_
 refine wp_block ?_
 have hd1:¬ ((((k:Nat):Int))<0):=ok
 have hd2:¬ (k<0):=by have e:=hd1;omega
 refine ks3_ fun K O T Y=>?_
 refine tk3_ ?_
 refine nz Y I O ?_;clear Y T I O K;intro vw1 I
 clear hd1 hd2
 refine wp_cond_false (by rfl) ?_
 have hd3:¬ (100<(((k:Nat):Int))):=ok
 refine ks3_ fun K O T Y=>?_
 refine tk3_ ?_
 refine nz Y I O ?_;clear Y T I O K;intro vw2 I
 clear hd3
 refine wp_cond_false (by rfl) ?_
 refine wp_skip ?_
 show Code.wp _ _ _ _ _
 have HZ1:Hid (10 ^ k=p):=lh_ (HP.out)
 have su1:wl p≤12:=by have e:=HZ1.out;first|omega|(rw [← e];exact qi3 om)
 have HZ2:Hid ((if false then -((p:Nat):Int) else ((p:Nat):Int))=((p:Nat):Int)):=lh_ (by rfl)
 have su2:wl (Int.natAbs (((p:Nat):Int)))≤12:=by have e:=HZ2.out;first|omega|(rw [← e];split <;> simp <;> omega)
 have HZ3:Hid (((((p:Nat):Int):Int):Rat)=y):=lh_ (HY.out)
 have su3:sz y≤12:=by have e:=HZ3.out;first|omega|(rw [← e];rw [qk4];omega)
 have HZ4:Hid (a*(y)=x):=lh_ (HX.out)
 have su4:sz x≤1012:=by have e:=HZ4.out;first|omega|(rw [← e];have:=qe2 a y;omega)
 have lx0:=kc0_ I
 refine kS fun K O=>?_
 refine qa1 7 [6] [] (fun _=>8) (fun _=>.cells #[.int .u64 0,.string ⟨#[]⟩,.bool false,.int .u64 0,.string ⟨#[]⟩] 36) [(true,0),(true,1),(true,2),(true,3),(true,4),(true,5)] (by kernel_rfl) (by kernel_rfl) zb0_ (fun i hi=>by cases hi) (fun _ _ _ _ _ h=>h) (fun T Y=>?_)
 refine tk2_ ?_
 refine ck Tryz.call264 (fun w' hw=>qi9 k p _ (lh_ HZ1.out) om) ?_
 refine ck Tryz.call37 (fun w' hw=>qa8 false p (((p:Nat):Int)) _ HZ2.out) ?_
 refine ck Tryz.call263 (fun w' hw=>qd7 (((p:Nat):Int)) y _ (lh_ HZ3.out) om) ?_
 refine ck Tryz.call134 (fun w' hw=>qc5 a y x _ HZ4.out om om) ?_
 refine qa0 (Y.out _ _ ?_)
 intro G vw3 hg hf
 simp only [puts,Act.put,lA,lB,lC,lD,lE,↓reduceIte,Nat.reduceEqDiff]
 have J:=lh_ (I.out.fr hg hf (zs:=[(#[.int .u64 0,.string ⟨#[]⟩,.bool false,.int .u64 0,.string ⟨#[]⟩],36)]) rfl (by decide) (by decide))
 simp only [zq1_,zq2_,zq3_,zq4_,lF,lG] at J
 clear Y T I hg hf lx0
 generalize G 6=gx3 at *
 have lx3:=kc2_ J;have fx3:=kf2_ J
 have r0:=Gr.refl vw3
 go_wp2
 refine kO O ?_;clear O K
 clear r0 lx3 fx3
 refine fH (((((J.out).put2 2 0 rfl).put2 2 2 rfl).put 2 4 _ rfl).er 0) fun Wx5 I=>?_
 clear J
 have HZ5:Hid (x.floor=f):=lh_ (HFL.out)
 have su5:wl f.natAbs≤1013:=by have e:=HZ5.out;first|omega|(rw [← e];have:=qg4 x;omega)
 have lx3:=kc1_ I
 refine ks2_ fun K O T Y=>?_
 refine tk ?_
 refine ck Tryz.call142 (fun w' hw=>qf2 x f _ (lh_ HZ5.out) om) ?_
 refine nlS Y I fun vw4 J=>?_
 clear Y T I lx3
 go_wp2
 refine kF_ O ((J.out).aL (vw4.heap.size)) fun Wx6 I=>?_;clear O K
 clear J
 generalize vw4.heap.size=gx4 at *
 refine wp_seq ?_
 refine ks1_ fun K O T Y=>?_
 refine tk ?_
 refine nz Y I O ?_;clear Y T I O K;intro vw5 I
 refine wp_block ?_
 refine wp_seq ?_
 refine wp_block ?_
 refine wp_seq ?_
 refine wp_block ?_
 refine wp_seq ?_
 refine wp_block ?_
 refine wp_seq ?_
 refine wp_seq ?_
 refine ks2_ fun K O T Y=>?_
 refine tk2_ ?_
 refine nz Y I O ?_;clear Y T I O K;intro vw6 I
 refine wp_cond_true (by rfl) ?_
 refine wp_exit ?_
 show Code.wp _ _ _ _ _
 obtain ⟨u6,HZ6⟩:=ex_ (((f:Int):Rat))
 have su6:sz u6≤1013:=by rw [← HZ6.out];rw [qk4];omega
 have HZ7:Hid (x - u6=r):=lh_ xr4
 have su7:sz r≤2026:=by have e:=HZ7.out;first|omega|(rw [← e];have:=ql8 x u6;omega)
 have lx3:=kc1_ I
 have lx4:=kc2_ I
 refine kS fun K O=>?_
 refine qa1 5 [4] [] (fun _=>10) (fun _=>.cells #[.int .u64 0,.string ⟨#[]⟩,.bool false,.int .u64 0,.string ⟨#[]⟩] 36) [(true,0),(true,1),(true,2),(true,3)] (by kernel_rfl) (by kernel_rfl) zb0_ (fun i hi=>by cases hi) (fun _ _ _ _ _ h=>h) (fun T Y=>?_)
 refine tk2_ ?_
 refine ck Tryz.call263 (fun w' hw=>qd7 f u6 _ (lh_ HZ6.out) om) ?_
 refine ck Tryz.call132 (fun w' hw=>qf0 x u6 r _ HZ7.out om om) ?_
 refine qa0 (Y.out _ _ ?_)
 intro G vw7 hg hf
 simp only [puts,Act.put,lA,lB,lC,lD,lE,↓reduceIte,Nat.reduceEqDiff]
 have J:=lh_ (I.out.fr hg hf (zs:=[(#[.int .u64 0,.string ⟨#[]⟩,.bool false,.int .u64 0,.string ⟨#[]⟩],36)]) rfl (by decide) (by decide))
 simp only [zq1_,zq2_,zq3_,zq4_,lF,lG] at J
 clear Y T I hg hf lx3 lx4
 generalize G 4=gx5 at *
 have lx5:=kc3_ J;have fx5:=kf3_ J
 have r0:=Gr.refl vw7
 go_wp2
 refine kO O ?_;clear O K
 clear r0 lx5 fx5
 refine fH ((((J.out).put2 3 0 rfl).put2 3 2 rfl).put 3 4 _ rfl) fun Wx11 I=>?_
 clear J
 have su8:wl (Int.natAbs (2))≤1:=qa2.2 (by decide +kernel)
 obtain ⟨u9,HZ9⟩:=ex_ (f / (2))
 have su9:wl u9.natAbs≤1014:=by rw [← HZ9.out];have:=qs5 f (2);omega
 have HZ10:Hid (f % (2)=d):=lh_ (HD.out)
 have su10:wl d.natAbs≤1013:=by have e:=HZ10.out;first|omega|(rw [← e];have:=qx_ f (2) qH2;omega)
 have lx4:=kc2_ I
 refine kS fun K O=>?_
 refine qa1 9 [7,8] [5,6] (fun i=>if i=7 then 11 else 12) (fun i=>if i=7 then .cells #[.int .u64 0,.string ⟨#[]⟩,.bool false] 34 else .cells #[.int .u64 0,.string ⟨#[]⟩,.bool false] 34) [(true,0),(true,1),(true,2),(true,3),(true,4),(true,5),(true,6)] (by kernel_rfl) (by kernel_rfl) zb1_ qV8 (fun _ _ _ _ _ h=>h) (fun T Y=>?_)
 refine tk ?_
 refine ck Tryz.call23 (fun w' hw=>qn9 (2) _ (by decide) (by decide)) ?_
 refine ck Tryz.call42 (fun w' hw=>xh9 f (2) u9 d _ HZ9.out HZ10.out qH2 om om) ?_
 iterate 4 refine tk ?_
 refine qa0 (Y.out _ _ ?_)
 intro G vw8 hg hf
 simp only [puts,Act.put,lA,lB,lC,lD,lE,↓reduceIte,Nat.reduceEqDiff]
 have J:=lh_ (I.out.fr hg hf (zs:=[(#[.int .u64 0,.string ⟨#[]⟩,.bool false],34),(#[.int .u64 0,.string ⟨#[]⟩,.bool false],34)]) rfl (by decide) (by decide))
 simp only [zq1_,zq2_,zq3_,zq4_,lF,lG] at J
 clear Y T I hg hf lx4
 generalize G 7=gx6 at *
 generalize G 8=gx7 at *
 have lx6:=kc4_ J;have fx6:=kf4_ J
 have lx7:=kc5_ J;have fx7:=kf5_ J
 have r0:=Gr.refl vw8
 obtain ⟨d6_7,d7_6⟩:=J.out.ne 4 5 rfl rfl (by decide)
 go_wp2
 refine kO O ?_;clear O K
 clear r0 lx6 fx6 lx7 fx7 d6_7 d7_6
 refine fH ((((((J.out).put2 4 0 rfl).put 4 2 _ rfl).put2 5 0 rfl).put 5 2 _ rfl).er 4) fun Wx12 I=>?_
 clear J
 obtain ⟨u11,HZ11⟩:=ex_ (r+(r))
 have su11:sz u11≤4053:=by rw [← HZ11.out];have:=qt5 r r;omega
 have HZ12:Hid (((1:Int):Rat)=(1:Rat)):=lh_ (by decide +kernel)
 have su12:sz ((1:Rat))≤2:=qc9 (qa2.2 (by decide +kernel)) (qa2.2 (by decide +kernel))
 have lx5:=kc3_ I
 refine ks6_ fun K O T Y=>?_
 refine tk2_ ?_
 refine ck Tryz.call130 (fun w' hw=>ql0 r r u11 _ HZ11.out om om) ?_
 refine ck Tryz.call147 (fun w' hw=>qb9 (1) (1:Rat) _ HZ12.out om om) ?_
 refine ck Tryz.call140 (fun w' hw=>qc1 u11 (1:Rat) (1) _ xq9 om om) ?_
 refine tk ?_
 refine nzR Y O (fun w2 hg=>(I.out.gr hg).er 3) ?_;clear Y T I lx5 O K;intro Wx13 I
 have lx7:=kc3_ I
 refine qh4 fun K O T Y=>?_
 iterate 6 refine tk ?_
 iterate 3 refine sk ?_
 refine tk2_ ?_
 refine nzR Y O (fun w2 hg=>(I.out.gr hg).er 3) ?_;clear Y T I lx7 O K;intro Wx14 I
 refine wp_cond_false (by rfl) ?_
 refine wp_skip ?_
 show Code.wp _ _ _ _ _
 refine wp_seq ?_
 have HZ13:Hid (x.ceil=c):=lh_ (HCE.out)
 have su13:wl c.natAbs≤1013:=by have e:=HZ13.out;first|omega|(rw [← e];have:=qD3 x;omega)
 have lx3:=kc1_ I
 refine ks2_ fun K O T Y=>?_
 refine tk ?_
 refine ck Tryz.call148 (fun w' hw=>qw2 x c _ (lh_ HZ13.out) om) ?_
 refine nlS Y I fun vw11 J=>?_
 clear Y T I lx3
 have lx1:=kc0_ J;have fx1:=kf0_ J
 have r0:=Gr.refl vw11
 go_wp2
 refine kO O ?_;clear O K
 clear r0 lx1 fx1
 refine fH ((((J.out).put2 0 0 rfl).put 0 2 _ rfl).er 1) fun Wx16 I=>?_
 clear J
 refine wp_ret ?_
 try simp only [Exit.then,Exit.inBlock]
 have lx1:=kc0_ I
 have r0:=Gr.refl Wx16
 exact bR ⟨rfl,I.out.1⟩ qD5
theorem qZ4 (a x y:Rat) (k p:Nat) (f c:Int) (r:Rat) (o d:Int) (w:World) (HP:Hid (10 ^ k=p)) (HY:Hid ((((p:Nat):Int):Rat)=y)) (HX:Hid (a*y=x)) (HFL:Hid (x.floor=f)) (HCE:Hid (x.ceil=c)) (hk:k≤100) (hs:sz a≤1000) (hsy:sz y≤12) (HR:Hid (x - ((f:Int):Rat)=r)) (HT_:Hid (sgQ (r+r - (1:Rat))=o)) (HD:Hid (f % 2=d)) (HO:Hid (o=0)) (HDV:Hid (d=0)) :
  CB 239 #[(Value.agg #[.int .u64 (lo a.num.natAbs),.string (bg a.num.natAbs),.bool (a.num<0),.int .u64 (lo (a.den - 1)),.string (bg (a.den - 1))]),.int .i64 (((k:Nat):Int)),.int .i64 3] w (.tuple #[(.agg #[.int .u64 (lo f.natAbs),.string (bg f.natAbs),.bool (f<0)]),.int .i64 0]):=by
 go_enter Tryz.func239,Tryz.ntmps239
 have I:=lh_ (hp0 w)
 refine kSl fun K O=>?_;go_wp2
 refine kF_ O (al2_ I) fun Wx0 J=>?_;clear O K
 clear I;have I:=J;clear J
 generalize w.heap.size+1=gx1 at *
 refine wp_seq ?_
 refine wp_block ?_
 have hd1:¬ ((((k:Nat):Int))<0):=ok
 have hd2:¬ (k<0):=by have e:=hd1;omega
 refine ks3_ fun K O T Y=>?_
 refine tk3_ ?_
 refine nz Y I O ?_;clear Y T I O K;intro vw1 I
 clear hd1 hd2
 refine wp_cond_false (by rfl) ?_
 have hd3:¬ (100<(((k:Nat):Int))):=ok
 refine ks3_ fun K O T Y=>?_
 refine tk3_ ?_
 refine nz Y I O ?_;clear Y T I O K;intro vw2 I
 clear hd3
 refine wp_cond_false (by rfl) ?_
 refine wp_skip ?_
 show Code.wp _ _ _ _ _
 have HZ1:Hid (10 ^ k=p):=lh_ (HP.out)
 have su1:wl p≤12:=by have e:=HZ1.out;first|omega|(rw [← e];exact qi3 om)
 have HZ2:Hid ((if false then -((p:Nat):Int) else ((p:Nat):Int))=((p:Nat):Int)):=lh_ (by rfl)
 have su2:wl (Int.natAbs (((p:Nat):Int)))≤12:=by have e:=HZ2.out;first|omega|(rw [← e];split <;> simp <;> omega)
 have HZ3:Hid (((((p:Nat):Int):Int):Rat)=y):=lh_ (HY.out)
 have su3:sz y≤12:=by have e:=HZ3.out;first|omega|(rw [← e];rw [qk4];omega)
 have HZ4:Hid (a*(y)=x):=lh_ (HX.out)
 have su4:sz x≤1012:=by have e:=HZ4.out;first|omega|(rw [← e];have:=qe2 a y;omega)
 have lx0:=kc0_ I
 refine kS fun K O=>?_
 refine qa1 7 [6] [] (fun _=>8) (fun _=>.cells #[.int .u64 0,.string ⟨#[]⟩,.bool false,.int .u64 0,.string ⟨#[]⟩] 36) [(true,0),(true,1),(true,2),(true,3),(true,4),(true,5)] (by kernel_rfl) (by kernel_rfl) zb0_ (fun i hi=>by cases hi) (fun _ _ _ _ _ h=>h) (fun T Y=>?_)
 refine tk2_ ?_
 refine ck Tryz.call264 (fun w' hw=>qi9 k p _ (lh_ HZ1.out) om) ?_
 refine ck Tryz.call37 (fun w' hw=>qa8 false p (((p:Nat):Int)) _ HZ2.out) ?_
 refine ck Tryz.call263 (fun w' hw=>qd7 (((p:Nat):Int)) y _ (lh_ HZ3.out) om) ?_
 refine ck Tryz.call134 (fun w' hw=>qc5 a y x _ HZ4.out om om) ?_
 refine qa0 (Y.out _ _ ?_)
 intro G vw3 hg hf
 simp only [puts,Act.put,lA,lB,lC,lD,lE,↓reduceIte,Nat.reduceEqDiff]
 have J:=lh_ (I.out.fr hg hf (zs:=[(#[.int .u64 0,.string ⟨#[]⟩,.bool false,.int .u64 0,.string ⟨#[]⟩],36)]) rfl (by decide) (by decide))
 simp only [zq1_,zq2_,zq3_,zq4_,lF,lG] at J
 clear Y T I hg hf lx0
 generalize G 6=gx3 at *
 have lx3:=kc2_ J;have fx3:=kf2_ J
 have r0:=Gr.refl vw3
 go_wp2
 refine kO O ?_;clear O K
 clear r0 lx3 fx3
 refine fH (((((J.out).put2 2 0 rfl).put2 2 2 rfl).put 2 4 _ rfl).er 0) fun Wx5 I=>?_
 clear J
 have HZ5:Hid (x.floor=f):=lh_ (HFL.out)
 have su5:wl f.natAbs≤1013:=by have e:=HZ5.out;first|omega|(rw [← e];have:=qg4 x;omega)
 have lx3:=kc1_ I
 refine ks2_ fun K O T Y=>?_
 refine tk ?_
 refine ck Tryz.call142 (fun w' hw=>qf2 x f _ (lh_ HZ5.out) om) ?_
 refine nlS Y I fun vw4 J=>?_
 clear Y T I lx3
 go_wp2
 refine kF_ O ((J.out).aL (vw4.heap.size)) fun Wx6 I=>?_;clear O K
 clear J
 generalize vw4.heap.size=gx4 at *
 refine wp_seq ?_
 refine ks1_ fun K O T Y=>?_
 refine tk ?_
 refine nz Y I O ?_;clear Y T I O K;intro vw5 I
 refine wp_block ?_
 refine wp_seq ?_
 refine wp_block ?_
 refine wp_seq ?_
 refine wp_block ?_
 refine wp_seq ?_
 refine wp_block ?_
 refine wp_seq ?_
 refine wp_seq ?_
 refine ks2_ fun K O T Y=>?_
 refine tk2_ ?_
 refine nz Y I O ?_;clear Y T I O K;intro vw6 I
 refine wp_cond_true (by rfl) ?_
 refine wp_exit ?_
 show Code.wp _ _ _ _ _
 obtain ⟨u6,HZ6⟩:=ex_ (((f:Int):Rat))
 have su6:sz u6≤1013:=by rw [← HZ6.out];rw [qk4];omega
 have HZ7:Hid (x - u6=r):=lh_ xr4
 have su7:sz r≤2026:=by have e:=HZ7.out;first|omega|(rw [← e];have:=ql8 x u6;omega)
 have lx3:=kc1_ I
 have lx4:=kc2_ I
 refine kS fun K O=>?_
 refine qa1 5 [4] [] (fun _=>10) (fun _=>.cells #[.int .u64 0,.string ⟨#[]⟩,.bool false,.int .u64 0,.string ⟨#[]⟩] 36) [(true,0),(true,1),(true,2),(true,3)] (by kernel_rfl) (by kernel_rfl) zb0_ (fun i hi=>by cases hi) (fun _ _ _ _ _ h=>h) (fun T Y=>?_)
 refine tk2_ ?_
 refine ck Tryz.call263 (fun w' hw=>qd7 f u6 _ (lh_ HZ6.out) om) ?_
 refine ck Tryz.call132 (fun w' hw=>qf0 x u6 r _ HZ7.out om om) ?_
 refine qa0 (Y.out _ _ ?_)
 intro G vw7 hg hf
 simp only [puts,Act.put,lA,lB,lC,lD,lE,↓reduceIte,Nat.reduceEqDiff]
 have J:=lh_ (I.out.fr hg hf (zs:=[(#[.int .u64 0,.string ⟨#[]⟩,.bool false,.int .u64 0,.string ⟨#[]⟩],36)]) rfl (by decide) (by decide))
 simp only [zq1_,zq2_,zq3_,zq4_,lF,lG] at J
 clear Y T I hg hf lx3 lx4
 generalize G 4=gx5 at *
 have lx5:=kc3_ J;have fx5:=kf3_ J
 have r0:=Gr.refl vw7
 go_wp2
 refine kO O ?_;clear O K
 clear r0 lx5 fx5
 refine fH ((((J.out).put2 3 0 rfl).put2 3 2 rfl).put 3 4 _ rfl) fun Wx11 I=>?_
 clear J
 have su8:wl (Int.natAbs (2))≤1:=qa2.2 (by decide +kernel)
 obtain ⟨u9,HZ9⟩:=ex_ (f / (2))
 have su9:wl u9.natAbs≤1014:=by rw [← HZ9.out];have:=qs5 f (2);omega
 have HZ10:Hid (f % (2)=d):=lh_ (HD.out)
 have su10:wl d.natAbs≤1013:=by have e:=HZ10.out;first|omega|(rw [← e];have:=qx_ f (2) qH2;omega)
 have lx4:=kc2_ I
 refine kS fun K O=>?_
 refine qa1 9 [7,8] [5,6] (fun i=>if i=7 then 11 else 12) (fun i=>if i=7 then .cells #[.int .u64 0,.string ⟨#[]⟩,.bool false] 34 else .cells #[.int .u64 0,.string ⟨#[]⟩,.bool false] 34) [(true,0),(true,1),(true,2),(true,3),(true,4),(true,5),(true,6)] (by kernel_rfl) (by kernel_rfl) zb1_ qV8 (fun _ _ _ _ _ h=>h) (fun T Y=>?_)
 refine tk ?_
 refine ck Tryz.call23 (fun w' hw=>qn9 (2) _ (by decide) (by decide)) ?_
 refine ck Tryz.call42 (fun w' hw=>xh9 f (2) u9 d _ HZ9.out HZ10.out qH2 om om) ?_
 iterate 4 refine tk ?_
 refine qa0 (Y.out _ _ ?_)
 intro G vw8 hg hf
 simp only [puts,Act.put,lA,lB,lC,lD,lE,↓reduceIte,Nat.reduceEqDiff]
 have J:=lh_ (I.out.fr hg hf (zs:=[(#[.int .u64 0,.string ⟨#[]⟩,.bool false],34),(#[.int .u64 0,.string ⟨#[]⟩,.bool false],34)]) rfl (by decide) (by decide))
 simp only [zq1_,zq2_,zq3_,zq4_,lF,lG] at J
 clear Y T I hg hf lx4
 generalize G 7=gx6 at *
 generalize G 8=gx7 at *
 have lx6:=kc4_ J;have fx6:=kf4_ J
 have lx7:=kc5_ J;have fx7:=kf5_ J
 have r0:=Gr.refl vw8
 obtain ⟨d6_7,d7_6⟩:=J.out.ne 4 5 rfl rfl (by decide)
 go_wp2
 refine kO O ?_;clear O K
 clear r0 lx6 fx6 lx7 fx7 d6_7 d7_6
 refine fH ((((((J.out).put2 4 0 rfl).put 4 2 _ rfl).put2 5 0 rfl).put 5 2 _ rfl).er 4) fun Wx12 I=>?_
 clear J
 obtain ⟨u11,HZ11⟩:=ex_ (r+(r))
 have su11:sz u11≤4053:=by rw [← HZ11.out];have:=qt5 r r;omega
 have HZ12:Hid (((1:Int):Rat)=(1:Rat)):=lh_ (by decide +kernel)
 have su12:sz ((1:Rat))≤2:=qc9 (qa2.2 (by decide +kernel)) (qa2.2 (by decide +kernel))
 have lx5:=kc3_ I
 refine ks6_ fun K O T Y=>?_
 refine tk2_ ?_
 refine ck Tryz.call130 (fun w' hw=>ql0 r r u11 _ HZ11.out om om) ?_
 refine ck Tryz.call147 (fun w' hw=>qb9 (1) (1:Rat) _ HZ12.out om om) ?_
 refine ck Tryz.call140 (fun w' hw=>qc1 u11 (1:Rat) (0) _ xq9 om om) ?_
 refine tk ?_
 refine nzR Y O (fun w2 hg=>(I.out.gr hg).er 3) ?_;clear Y T I lx5 O K;intro Wx13 I
 have lx7:=kc3_ I
 refine qh4 fun K O T Y=>?_
 iterate 7 refine tk ?_
 refine ck Tryz.call101 (fun w' hw=>qq_ d (0) _ (by have e8:=HDV.out;rw [e8];rfl)) ?_
 refine tk3_ ?_
 refine nzR Y O (fun w2 hg=>(I.out.gr hg).er 3) ?_;clear Y T I lx7 O K;intro Wx14 I
 refine wp_cond_true (by rfl) ?_
 have lx4:=kc2_ I
 refine ks1_ fun K O T Y=>?_
 refine tk ?_
 refine nlS Y I fun vw11 J=>?_
 clear Y T I lx4
 have lx1:=kc0_ J;have fx1:=kf0_ J
 have r0:=Gr.refl vw11
 go_wp2
 refine kO O ?_;clear O K
 clear r0 lx1 fx1
 refine fH (((J.out).put2 0 0 rfl).put 0 2 _ rfl) fun Wx15 I=>?_
 clear J
 refine wp_ret ?_
 try simp only [Exit.then,Exit.inBlock]
 have lx1:=kc0_ I
 have r0:=Gr.refl Wx15
 exact bR ⟨rfl,I.out.1⟩ qD5
theorem xj9 (a x y:Rat) (k p:Nat) (f c:Int) (r:Rat) (o d:Int) (w:World) (HP:Hid (10 ^ k=p)) (HY:Hid ((((p:Nat):Int):Rat)=y)) (HX:Hid (a*y=x)) (HFL:Hid (x.floor=f)) (HCE:Hid (x.ceil=c)) (hk:k≤100) (hs:sz a≤1000) (hsy:sz y≤12) (HR:Hid (x - ((f:Int):Rat)=r)) (HT_:Hid (sgQ (r+r - (1:Rat))=o)) (HD:Hid (f % 2=d)) (HO:Hid (o=0)) (HDV:Hid (d=1)) :
  CB 239 #[(Value.agg #[.int .u64 (lo a.num.natAbs),.string (bg a.num.natAbs),.bool (a.num<0),.int .u64 (lo (a.den - 1)),.string (bg (a.den - 1))]),.int .i64 (((k:Nat):Int)),.int .i64 3] w (.tuple #[(.agg #[.int .u64 (lo c.natAbs),.string (bg c.natAbs),.bool (c<0)]),.int .i64 0]):=by
 go_enter Tryz.func239,Tryz.ntmps239
 have I:=lh_ (hp0 w)
 refine kSl fun K O=>?_;go_wp2
 refine kF_ O (al2_ I) fun Wx0 J=>?_;clear O K
 clear I;have I:=J;clear J
 generalize w.heap.size+1=gx1 at *
 refine wp_seq ?_
 refine wp_block ?_
 have hd1:¬ ((((k:Nat):Int))<0):=ok
 have hd2:¬ (k<0):=by have e:=hd1;omega
 refine ks3_ fun K O T Y=>?_
 refine tk3_ ?_
 refine nz Y I O ?_;clear Y T I O K;intro vw1 I
 clear hd1 hd2
 refine wp_cond_false (by rfl) ?_
 have hd3:¬ (100<(((k:Nat):Int))):=ok
 refine ks3_ fun K O T Y=>?_
 refine tk3_ ?_
 refine nz Y I O ?_;clear Y T I O K;intro vw2 I
 clear hd3
 refine wp_cond_false (by rfl) ?_
 refine wp_skip ?_
 show Code.wp _ _ _ _ _
 have HZ1:Hid (10 ^ k=p):=lh_ (HP.out)
 have su1:wl p≤12:=by have e:=HZ1.out;first|omega|(rw [← e];exact qi3 om)
 have HZ2:Hid ((if false then -((p:Nat):Int) else ((p:Nat):Int))=((p:Nat):Int)):=lh_ (by rfl)
 have su2:wl (Int.natAbs (((p:Nat):Int)))≤12:=by have e:=HZ2.out;first|omega|(rw [← e];split <;> simp <;> omega)
 have HZ3:Hid (((((p:Nat):Int):Int):Rat)=y):=lh_ (HY.out)
 have su3:sz y≤12:=by have e:=HZ3.out;first|omega|(rw [← e];rw [qk4];omega)
 have HZ4:Hid (a*(y)=x):=lh_ (HX.out)
 have su4:sz x≤1012:=by have e:=HZ4.out;first|omega|(rw [← e];have:=qe2 a y;omega)
 have lx0:=kc0_ I
 refine kS fun K O=>?_
 refine qa1 7 [6] [] (fun _=>8) (fun _=>.cells #[.int .u64 0,.string ⟨#[]⟩,.bool false,.int .u64 0,.string ⟨#[]⟩] 36) [(true,0),(true,1),(true,2),(true,3),(true,4),(true,5)] (by kernel_rfl) (by kernel_rfl) zb0_ (fun i hi=>by cases hi) (fun _ _ _ _ _ h=>h) (fun T Y=>?_)
 refine tk2_ ?_
 refine ck Tryz.call264 (fun w' hw=>qi9 k p _ (lh_ HZ1.out) om) ?_
 refine ck Tryz.call37 (fun w' hw=>qa8 false p (((p:Nat):Int)) _ HZ2.out) ?_
 refine ck Tryz.call263 (fun w' hw=>qd7 (((p:Nat):Int)) y _ (lh_ HZ3.out) om) ?_
 refine ck Tryz.call134 (fun w' hw=>qc5 a y x _ HZ4.out om om) ?_
 refine qa0 (Y.out _ _ ?_)
 intro G vw3 hg hf
 simp only [puts,Act.put,lA,lB,lC,lD,lE,↓reduceIte,Nat.reduceEqDiff]
 have J:=lh_ (I.out.fr hg hf (zs:=[(#[.int .u64 0,.string ⟨#[]⟩,.bool false,.int .u64 0,.string ⟨#[]⟩],36)]) rfl (by decide) (by decide))
 simp only [zq1_,zq2_,zq3_,zq4_,lF,lG] at J
 clear Y T I hg hf lx0
 generalize G 6=gx3 at *
 have lx3:=kc2_ J;have fx3:=kf2_ J
 have r0:=Gr.refl vw3
 go_wp2
 refine kO O ?_;clear O K
 clear r0 lx3 fx3
 refine fH (((((J.out).put2 2 0 rfl).put2 2 2 rfl).put 2 4 _ rfl).er 0) fun Wx5 I=>?_
 clear J
 have HZ5:Hid (x.floor=f):=lh_ (HFL.out)
 have su5:wl f.natAbs≤1013:=by have e:=HZ5.out;first|omega|(rw [← e];have:=qg4 x;omega)
 have lx3:=kc1_ I
 refine ks2_ fun K O T Y=>?_
 refine tk ?_
 refine ck Tryz.call142 (fun w' hw=>qf2 x f _ (lh_ HZ5.out) om) ?_
 refine nlS Y I fun vw4 J=>?_
 clear Y T I lx3
 go_wp2
 refine kF_ O ((J.out).aL (vw4.heap.size)) fun Wx6 I=>?_;clear O K
 clear J
 generalize vw4.heap.size=gx4 at *
 refine wp_seq ?_
 refine ks1_ fun K O T Y=>?_
 refine tk ?_
 refine nz Y I O ?_;clear Y T I O K;intro vw5 I
 refine wp_block ?_
 refine wp_seq ?_
 refine wp_block ?_
 refine wp_seq ?_
 refine wp_block ?_
 refine wp_seq ?_
 refine wp_block ?_
 refine wp_seq ?_
 refine wp_seq ?_
 refine ks2_ fun K O T Y=>?_
 refine tk2_ ?_
 refine nz Y I O ?_;clear Y T I O K;intro vw6 I
 refine wp_cond_true (by rfl) ?_
 refine wp_exit ?_
 show Code.wp _ _ _ _ _
 obtain ⟨u6,HZ6⟩:=ex_ (((f:Int):Rat))
 have su6:sz u6≤1013:=by rw [← HZ6.out];rw [qk4];omega
 have HZ7:Hid (x - u6=r):=lh_ xr4
 have su7:sz r≤2026:=by have e:=HZ7.out;first|omega|(rw [← e];have:=ql8 x u6;omega)
 have lx3:=kc1_ I
 have lx4:=kc2_ I
 refine kS fun K O=>?_
 refine qa1 5 [4] [] (fun _=>10) (fun _=>.cells #[.int .u64 0,.string ⟨#[]⟩,.bool false,.int .u64 0,.string ⟨#[]⟩] 36) [(true,0),(true,1),(true,2),(true,3)] (by kernel_rfl) (by kernel_rfl) zb0_ (fun i hi=>by cases hi) (fun _ _ _ _ _ h=>h) (fun T Y=>?_)
 refine tk2_ ?_
 refine ck Tryz.call263 (fun w' hw=>qd7 f u6 _ (lh_ HZ6.out) om) ?_
 refine ck Tryz.call132 (fun w' hw=>qf0 x u6 r _ HZ7.out om om) ?_
 refine qa0 (Y.out _ _ ?_)
 intro G vw7 hg hf
 simp only [puts,Act.put,lA,lB,lC,lD,lE,↓reduceIte,Nat.reduceEqDiff]
 have J:=lh_ (I.out.fr hg hf (zs:=[(#[.int .u64 0,.string ⟨#[]⟩,.bool false,.int .u64 0,.string ⟨#[]⟩],36)]) rfl (by decide) (by decide))
 simp only [zq1_,zq2_,zq3_,zq4_,lF,lG] at J
 clear Y T I hg hf lx3 lx4
 generalize G 4=gx5 at *
 have lx5:=kc3_ J;have fx5:=kf3_ J
 have r0:=Gr.refl vw7
 go_wp2
 refine kO O ?_;clear O K
 clear r0 lx5 fx5
 refine fH ((((J.out).put2 3 0 rfl).put2 3 2 rfl).put 3 4 _ rfl) fun Wx11 I=>?_
 clear J
 have su8:wl (Int.natAbs (2))≤1:=qa2.2 (by decide +kernel)
 obtain ⟨u9,HZ9⟩:=ex_ (f / (2))
 have su9:wl u9.natAbs≤1014:=by rw [← HZ9.out];have:=qs5 f (2);omega
 have HZ10:Hid (f % (2)=d):=lh_ (HD.out)
 have su10:wl d.natAbs≤1013:=by have e:=HZ10.out;first|omega|(rw [← e];have:=qx_ f (2) qH2;omega)
 have lx4:=kc2_ I
 refine kS fun K O=>?_
 refine qa1 9 [7,8] [5,6] (fun i=>if i=7 then 11 else 12) (fun i=>if i=7 then .cells #[.int .u64 0,.string ⟨#[]⟩,.bool false] 34 else .cells #[.int .u64 0,.string ⟨#[]⟩,.bool false] 34) [(true,0),(true,1),(true,2),(true,3),(true,4),(true,5),(true,6)] (by kernel_rfl) (by kernel_rfl) zb1_ qV8 (fun _ _ _ _ _ h=>h) (fun T Y=>?_)
 refine tk ?_
 refine ck Tryz.call23 (fun w' hw=>qn9 (2) _ (by decide) (by decide)) ?_
 refine ck Tryz.call42 (fun w' hw=>xh9 f (2) u9 d _ HZ9.out HZ10.out qH2 om om) ?_
 iterate 4 refine tk ?_
 refine qa0 (Y.out _ _ ?_)
 intro G vw8 hg hf
 simp only [puts,Act.put,lA,lB,lC,lD,lE,↓reduceIte,Nat.reduceEqDiff]
 have J:=lh_ (I.out.fr hg hf (zs:=[(#[.int .u64 0,.string ⟨#[]⟩,.bool false],34),(#[.int .u64 0,.string ⟨#[]⟩,.bool false],34)]) rfl (by decide) (by decide))
 simp only [zq1_,zq2_,zq3_,zq4_,lF,lG] at J
 clear Y T I hg hf lx4
 generalize G 7=gx6 at *
 generalize G 8=gx7 at *
 have lx6:=kc4_ J;have fx6:=kf4_ J
 have lx7:=kc5_ J;have fx7:=kf5_ J
 have r0:=Gr.refl vw8
 obtain ⟨d6_7,d7_6⟩:=J.out.ne 4 5 rfl rfl (by decide)
 go_wp2
 refine kO O ?_;clear O K
 clear r0 lx6 fx6 lx7 fx7 d6_7 d7_6
 refine fH ((((((J.out).put2 4 0 rfl).put 4 2 _ rfl).put2 5 0 rfl).put 5 2 _ rfl).er 4) fun Wx12 I=>?_
 clear J
 obtain ⟨u11,HZ11⟩:=ex_ (r+(r))
 have su11:sz u11≤4053:=by rw [← HZ11.out];have:=qt5 r r;omega
 have HZ12:Hid (((1:Int):Rat)=(1:Rat)):=lh_ (by decide +kernel)
 have su12:sz ((1:Rat))≤2:=qc9 (qa2.2 (by decide +kernel)) (qa2.2 (by decide +kernel))
 have lx5:=kc3_ I
 refine ks6_ fun K O T Y=>?_
 refine tk2_ ?_
 refine ck Tryz.call130 (fun w' hw=>ql0 r r u11 _ HZ11.out om om) ?_
 refine ck Tryz.call147 (fun w' hw=>qb9 (1) (1:Rat) _ HZ12.out om om) ?_
 refine ck Tryz.call140 (fun w' hw=>qc1 u11 (1:Rat) (0) _ xq9 om om) ?_
 refine tk ?_
 refine nzR Y O (fun w2 hg=>(I.out.gr hg).er 3) ?_;clear Y T I lx5 O K;intro Wx13 I
 have lx7:=kc3_ I
 refine qh4 fun K O T Y=>?_
 iterate 7 refine tk ?_
 refine ck Tryz.call101 (fun w' hw=>qq_ d (1) _ (by have e8:=HDV.out;rw [e8];rfl)) ?_
 refine tk3_ ?_
 refine nzR Y O (fun w2 hg=>(I.out.gr hg).er 3) ?_;clear Y T I lx7 O K;intro Wx14 I
 refine wp_cond_false (by rfl) ?_
 refine wp_skip ?_
 show Code.wp _ _ _ _ _
 refine wp_seq ?_
 have HZ13:Hid (x.ceil=c):=lh_ (HCE.out)
 have su13:wl c.natAbs≤1013:=by have e:=HZ13.out;first|omega|(rw [← e];have:=qD3 x;omega)
 have lx3:=kc1_ I
 refine ks2_ fun K O T Y=>?_
 refine tk ?_
 refine ck Tryz.call148 (fun w' hw=>qw2 x c _ (lh_ HZ13.out) om) ?_
 refine nlS Y I fun vw11 J=>?_
 clear Y T I lx3
 have lx1:=kc0_ J;have fx1:=kf0_ J
 have r0:=Gr.refl vw11
 go_wp2
 refine kO O ?_;clear O K
 clear r0 lx1 fx1
 refine fH ((((J.out).put2 0 0 rfl).put 0 2 _ rfl).er 1) fun Wx16 I=>?_
 clear J
 refine wp_ret ?_
 try simp only [Exit.then,Exit.inBlock]
 have lx1:=kc0_ I
 have r0:=Gr.refl Wx16
 exact bR ⟨rfl,I.out.1⟩ qD5
theorem qZ6 (a:Rat) (n way:Int) (w:World) (hn:n<0) :
  CB 239 #[(Value.agg #[.int .u64 (lo a.num.natAbs),.string (bg a.num.natAbs),.bool (a.num<0),.int .u64 (lo (a.den - 1)),.string (bg (a.den - 1))]),.int .i64 n,.int .i64 way] w ((.tuple #[(.agg #[.int .u64 0,.string ⟨#[]⟩,.bool false]),.int .i64 1])):=by
 go_enter Tryz.func239,Tryz.ntmps239
 have I:=lh_ (hp0 w)
 refine kSl fun K O=>?_;go_wp2
 refine kF_ O (al2_ I) fun Wx0 J=>?_;clear O K
 clear I;have I:=J;clear J
 generalize w.heap.size+1=gx1 at *
 refine wp_seq ?_
 refine wp_block ?_
 have hd1:n<0:=ok
 refine ks3_ fun K O T Y=>?_
 refine tk3_ ?_
 refine nz Y I O ?_;clear Y T I O K;intro vw1 I
 clear hd1
 refine wp_cond_true (by rfl) ?_
 refine ks1_ fun K O T Y=>?_
 refine tk ?_
 refine nlS Y I fun vw2 J=>?_
 clear Y T I
 have lx1:=kc1_ J;have fx1:=kf1_ J
 have r0:=Gr.refl vw2
 go_wp2
 refine kO O ?_;clear O K
 clear r0 lx1 fx1
 refine fH (((J.out).put2 1 0 rfl).put 1 2 _ rfl) fun Wx2 I=>?_
 clear J
 refine wp_ret ?_
 try simp only [Exit.then,Exit.inBlock]
 have lx1:=kc1_ I
 have r0:=Gr.refl Wx2
 exact bR ⟨rfl,I.out.1⟩ qD5
theorem qZ5 (a:Rat) (n way:Int) (w:World) (hn:100<n) :
  CB 239 #[(Value.agg #[.int .u64 (lo a.num.natAbs),.string (bg a.num.natAbs),.bool (a.num<0),.int .u64 (lo (a.den - 1)),.string (bg (a.den - 1))]),.int .i64 n,.int .i64 way] w ((.tuple #[(.agg #[.int .u64 0,.string ⟨#[]⟩,.bool false]),.int .i64 3])):=by
 go_enter Tryz.func239,Tryz.ntmps239
 have I:=lh_ (hp0 w)
 refine kSl fun K O=>?_;go_wp2
 refine kF_ O (al2_ I) fun Wx0 J=>?_;clear O K
 clear I;have I:=J;clear J
 generalize w.heap.size+1=gx1 at *
 refine wp_seq ?_
 refine wp_block ?_
 have hd1:¬ (n<0):=ok
 refine ks3_ fun K O T Y=>?_
 refine tk3_ ?_
 refine nz Y I O ?_;clear Y T I O K;intro vw1 I
 clear hd1
 refine wp_cond_false (by rfl) ?_
 have hd2:100<n:=ok
 refine ks3_ fun K O T Y=>?_
 refine tk3_ ?_
 refine nz Y I O ?_;clear Y T I O K;intro vw2 I
 clear hd2
 refine wp_cond_true (by rfl) ?_
 refine ks1_ fun K O T Y=>?_
 refine tk ?_
 refine nlS Y I fun vw3 J=>?_
 clear Y T I
 have lx1:=kc1_ J;have fx1:=kf1_ J
 have r0:=Gr.refl vw3
 go_wp2
 refine kO O ?_;clear O K
 clear r0 lx1 fx1
 refine fH (((J.out).put2 1 0 rfl).put 1 2 _ rfl) fun Wx4 I=>?_
 clear J
 refine wp_ret ?_
 try simp only [Exit.then,Exit.inBlock]
 have lx1:=kc1_ I
 have r0:=Gr.refl Wx4
 exact bR ⟨rfl,I.out.1⟩ qD5
theorem qZ7 (a y:Rat) (k p:Nat) (way:Int) (w:World) (HP:Hid (10 ^ k=p)) (HY:Hid ((((p:Nat):Int):Rat)=y)) (hk:k≤100) (hs:sz a≤1000) (hsy:sz y≤12) (hw:way<1∨3<way) :
  CB 239 #[(Value.agg #[.int .u64 (lo a.num.natAbs),.string (bg a.num.natAbs),.bool (a.num<0),.int .u64 (lo (a.den - 1)),.string (bg (a.den - 1))]),.int .i64 (((k:Nat):Int)),.int .i64 way] w ((.tuple #[(.agg #[.int .u64 0,.string ⟨#[]⟩,.bool false]),.int .i64 1])):=by
 go_enter Tryz.func239,Tryz.ntmps239
 have I:=lh_ (hp0 w)
 refine kSl fun K O=>?_;go_wp2
 refine kF_ O (al2_ I) fun Wx0 J=>?_;clear O K
 clear I;have I:=J;clear J
 generalize w.heap.size+1=gx1 at *
 refine wp_seq ?_
 refine wp_block ?_
 have hd1:¬ ((((k:Nat):Int))<0):=ok
 have hd2:¬ (k<0):=by have e:=hd1;omega
 refine ks3_ fun K O T Y=>?_
 refine tk3_ ?_
 refine nz Y I O ?_;clear Y T I O K;intro vw1 I
 clear hd1 hd2
 refine wp_cond_false (by rfl) ?_
 have hd3:¬ (100<(((k:Nat):Int))):=ok
 refine ks3_ fun K O T Y=>?_
 refine tk3_ ?_
 refine nz Y I O ?_;clear Y T I O K;intro vw2 I
 clear hd3
 refine wp_cond_false (by rfl) ?_
 refine wp_skip ?_
 show Code.wp _ _ _ _ _
 have HZ1:Hid (10 ^ k=p):=lh_ (HP.out)
 have su1:wl p≤12:=by have e:=HZ1.out;first|omega|(rw [← e];exact qi3 om)
 have HZ2:Hid ((if false then -((p:Nat):Int) else ((p:Nat):Int))=((p:Nat):Int)):=lh_ (by rfl)
 have su2:wl (Int.natAbs (((p:Nat):Int)))≤12:=by have e:=HZ2.out;first|omega|(rw [← e];split <;> simp <;> omega)
 have HZ3:Hid (((((p:Nat):Int):Int):Rat)=y):=lh_ (HY.out)
 have su3:sz y≤12:=by have e:=HZ3.out;first|omega|(rw [← e];rw [qk4];omega)
 obtain ⟨u4,HZ4⟩:=ex_ (a*(y))
 have su4:sz u4≤1012:=by rw [← HZ4.out];have:=qe2 a y;omega
 have lx0:=kc0_ I
 refine kS fun K O=>?_
 refine qa1 7 [6] [] (fun _=>8) (fun _=>.cells #[.int .u64 0,.string ⟨#[]⟩,.bool false,.int .u64 0,.string ⟨#[]⟩] 36) [(true,0),(true,1),(true,2),(true,3),(true,4),(true,5)] (by kernel_rfl) (by kernel_rfl) zb0_ (fun i hi=>by cases hi) (fun _ _ _ _ _ h=>h) (fun T Y=>?_)
 refine tk2_ ?_
 refine ck Tryz.call264 (fun w' hw=>qi9 k p _ (lh_ HZ1.out) om) ?_
 refine ck Tryz.call37 (fun w' hw=>qa8 false p (((p:Nat):Int)) _ HZ2.out) ?_
 refine ck Tryz.call263 (fun w' hw=>qd7 (((p:Nat):Int)) y _ (lh_ HZ3.out) om) ?_
 refine ck Tryz.call134 (fun w' hw=>qc5 a y u4 _ HZ4.out om om) ?_
 refine qa0 (Y.out _ _ ?_)
 intro G vw3 hg hf
 simp only [puts,Act.put,lA,lB,lC,lD,lE,↓reduceIte,Nat.reduceEqDiff]
 have J:=lh_ (I.out.fr hg hf (zs:=[(#[.int .u64 0,.string ⟨#[]⟩,.bool false,.int .u64 0,.string ⟨#[]⟩],36)]) rfl (by decide) (by decide))
 simp only [zq1_,zq2_,zq3_,zq4_,lF,lG] at J
 clear Y T I hg hf lx0
 generalize G 6=gx3 at *
 have lx3:=kc2_ J;have fx3:=kf2_ J
 have r0:=Gr.refl vw3
 go_wp2
 refine kO O ?_;clear O K
 clear r0 lx3 fx3
 refine fH (((((J.out).put2 2 0 rfl).put2 2 2 rfl).put 2 4 _ rfl).er 0) fun Wx5 I=>?_
 clear J
 obtain ⟨u5,HZ5⟩:=ex_ (u4.floor)
 have su5:wl u5.natAbs≤1013:=by rw [← HZ5.out];have:=qg4 u4;omega
 have lx3:=kc1_ I
 refine ks2_ fun K O T Y=>?_
 refine tk ?_
 refine ck Tryz.call142 (fun w' hw=>qf2 u4 u5 _ (lh_ HZ5.out) om) ?_
 refine nlS Y I fun vw4 J=>?_
 clear Y T I lx3
 go_wp2
 refine kF_ O ((J.out).aL (vw4.heap.size)) fun Wx6 I=>?_;clear O K
 clear J
 generalize vw4.heap.size=gx4 at *
 refine wp_seq ?_
 refine ks1_ fun K O T Y=>?_
 refine tk ?_
 refine nz Y I O ?_;clear Y T I O K;intro vw5 I
 refine wp_block ?_
 refine wp_seq ?_
 refine wp_block ?_
 refine wp_seq ?_
 refine wp_block ?_
 refine wp_seq ?_
 refine wp_block ?_
 refine wp_seq ?_
 refine wp_seq ?_
 have hd4:(way == (3))=false:=by have:¬ (way=3):=xE1;simpa using this
 refine ks2_ fun K O T Y=>?_
 refine tk2_ ?_
 refine nz Y I O ?_;clear Y T I O K;intro vw6 I
 clear hd4
 refine wp_cond_false (by rfl) ?_
 refine wp_skip ?_
 show Code.wp _ _ _ _ _
 refine wp_seq ?_
 have hd5:(way == (2))=false:=by have:¬ (way=2):=xE1;simpa using this
 refine ks2_ fun K O T Y=>?_
 refine tk2_ ?_
 refine nz Y I O ?_;clear Y T I O K;intro vw7 I
 clear hd5
 refine wp_cond_false (by rfl) ?_
 refine wp_skip ?_
 show Code.wp _ _ _ _ _
 have hd6:(way == (1))=false:=by have:¬ (way=1):=xE1;simpa using this
 refine ks2_ fun K O T Y=>?_
 refine tk2_ ?_
 refine nz Y I O ?_;clear Y T I O K;intro vw8 I
 clear hd6
 refine wp_cond_false (by rfl) ?_
 refine wp_skip ?_
 show Code.wp _ _ _ _ _
 refine wp_exit ?_
 show Code.wp _ _ _ _ _
 refine ks1_ fun K O T Y=>?_
 refine tk ?_
 refine nlS Y I fun vw9 J=>?_
 clear Y T I
 have lx1:=kc0_ J;have fx1:=kf0_ J
 have r0:=Gr.refl vw9
 go_wp2
 refine kO O ?_;clear O K
 clear r0 lx1 fx1
 refine fH (((((J.out).put2 0 0 rfl).put 0 2 _ rfl).er 2).er 1) fun Wx18 I=>?_
 clear J
 refine wp_ret ?_
 try simp only [Exit.then,Exit.inBlock]
 have lx1:=kc0_ I
 have r0:=Gr.refl Wx18
 exact bR ⟨rfl,I.out.1⟩ qD5
theorem qM_ (way:Int) (a:Rat) (k:Nat) (z:Int) (w:World) (hw1:1≤way) (hw2:way≤3) (hz:rnd way (a*(((10 ^ k:Nat):Int):Rat))=z) (hk:k≤100) (hs:sz a≤1000) :
  CB 239 #[(Value.agg #[.int .u64 (lo a.num.natAbs),.string (bg a.num.natAbs),.bool (a.num<0),.int .u64 (lo (a.den - 1)),.string (bg (a.den - 1))]),.int .i64 ((k:Nat):Int),.int .i64 way] w (.tuple #[(Value.agg #[.int .u64 (lo z.natAbs),.string (bg z.natAbs),.bool (z<0)]),.int .i64 0]):=by
 subst hz
 have h12:=qo5 (k:=k) om
 obtain rfl|rfl|rfl:way=1∨way=2∨way=3:=by omega
 ·exact xF8 a _ _ k _ _ _ w (lh_ rfl) (lh_ rfl) (lh_ rfl) (lh_ rfl) (lh_ rfl) hk hs h12
 ·exact xF9 a _ _ k _ _ _ w (lh_ rfl) (lh_ rfl) (lh_ rfl) (lh_ rfl) (lh_ rfl) hk hs h12
 obtain ⟨x,hx⟩:∃ x,a*(((10 ^ k:Nat):Int):Rat)=x:=⟨_,rfl⟩
 rw [hx]
 rcases qk3 ((x - (x.floor:Rat))+(x - (x.floor:Rat)) - 1) with ⟨_,e⟩|⟨_,e⟩|⟨_,e⟩
 ·have er:rnd 3 x=x.floor:=by unfold rnd;rw [if_neg (by decide),if_neg (by decide),if_pos (.inl (by rw [e];decide))]
  rw [er]
  exact xv7 a _ _ k _ _ _ _ _ _ w (lh_ rfl) (lh_ rfl) (lh_ hx) (lh_ rfl) (lh_ rfl) hk hs h12 (lh_ rfl) (lh_ rfl) (lh_ rfl) (lh_ e)
 ·rcases (show x.floor % 2=0∨x.floor % 2=1 by omega) with hd|hd
  ·have er:rnd 3 x=x.floor:=by unfold rnd;rw [if_neg (by decide),if_neg (by decide),if_pos (.inr ⟨e,hd⟩)]
   rw [er]
   exact qZ4 a _ _ k _ _ _ _ _ _ w (lh_ rfl) (lh_ rfl) (lh_ hx) (lh_ rfl) (lh_ rfl) hk hs h12 (lh_ rfl) (lh_ rfl) (lh_ rfl) (lh_ e) (lh_ hd)
  have er:rnd 3 x=x.ceil:=by unfold rnd;rw [if_neg (by decide),if_neg (by decide),if_neg (by rw [e,hd];decide)]
  rw [er]
  exact xj9 a _ _ k _ _ _ _ _ _ w (lh_ rfl) (lh_ rfl) (lh_ hx) (lh_ rfl) (lh_ rfl) hk hs h12 (lh_ rfl) (lh_ rfl) (lh_ rfl) (lh_ e) (lh_ hd)
 have er:rnd 3 x=x.ceil:=by unfold rnd;rw [if_neg (by decide),if_neg (by decide),if_neg (by rw [e];rintro (h|⟨h,_⟩) <;> exact absurd h (by decide))]
 rw [er]
 exact xv6 a _ _ k _ _ _ _ _ _ w (lh_ rfl) (lh_ rfl) (lh_ hx) (lh_ rfl) (lh_ rfl) hk hs h12 (lh_ rfl) (lh_ rfl) (lh_ rfl) (lh_ e)
def qh5 (n way:Int):Int:=if n<0 then 1 else if 100<n then 3 else if way<1∨3<way then 1 else 0
theorem qM9 (a:Rat) (n way:Int) (c:Int) (w:World) (hc:qh5 n way=c) (h0:c≠0) (hs:sz a≤1000) :
  CB 239 #[(Value.agg #[.int .u64 (lo a.num.natAbs),.string (bg a.num.natAbs),.bool (a.num<0),.int .u64 (lo (a.den - 1)),.string (bg (a.den - 1))]),.int .i64 n,.int .i64 way] w (.tuple #[(Value.agg #[.int .u64 (lo (Int.natAbs (0))),.string (bg (Int.natAbs (0))),.bool (decide ((0)<0))]),.int .i64 c]):=by
 subst hc
 unfold qh5 at *
 by_cases h1:n<0
 ·rw [if_pos h1];exact qZ6 a n way w h1
 rw [if_neg h1] at h0 ⊢
 by_cases h2:100<n
 ·rw [if_pos h2];exact qZ5 a n way w h2
 rw [if_neg h2] at h0 ⊢
 by_cases h3:way<1∨3<way
 ·rw [if_pos h3]
  obtain ⟨k,rfl⟩:∃ k:Nat,n=(k:Int):=⟨n.toNat,by omega⟩
  exact qZ7 a _ k _ way w (lh_ rfl) (lh_ rfl) om hs (qo5 om) h3
 rw [if_neg h3] at h0;exact absurd rfl h0
end Go.Proofs.YtobojnodohjiaaaGreatDoor
