
/- decimals: without, Cycle. -/
import Derived.Test.YtobojnodohjiaaaGreatDoorDecA
set_option maxRecDepth 100000
set_option maxHeartbeats 16000000
set_option linter.unusedVariables false
set_option linter.unusedSimpArgs false
namespace Go.Proofs.YtobojnodohjiaaaGreatDoor
open Go.RowKit
attribute [local go_sem ↓] Go.wp_at_zero Go.wp_at_succ
attribute [local go_sem ↓] eq_nat eq_nat_zero eq_int
def wo (f:Nat):Nat→Nat→Nat × Nat
 | x,0=>(x,0)
 | x,k+1=>if x % f=0 then ((wo f (x / f) k).1,(wo f (x / f) k).2+1) else (x,0)
theorem xg8 {f x k:Nat} (h:¬ x % f=0):wo f x (k+1)=(x,0):=by rw [wo,if_neg h]
theorem xM1 {f x k:Nat} (h:x % f=0):(wo f x (k+1)).1=(wo f (x / f) k).1:=by rw [wo,if_pos h]
theorem xM2 {f x k:Nat} (h:x % f=0):(wo f x (k+1)).2=(wo f (x / f) k).2+1:=by rw [wo,if_pos h]
theorem qD4 (f:Nat):∀ k x,(wo f x k).2≤k∧(wo f x k).1≤x
 | 0,x=>⟨Nat.le_refl _,Nat.le_refl _⟩
 | k+1,x=>by
  have h:=qD4 f k (x / f)
  have h2:=Nat.div_le_self x f
  unfold wo
  split
  ·exact ⟨by simp;omega,by simp;omega⟩
  exact ⟨Nat.zero_le _,Nat.le_refl _⟩
theorem qy0 (f:Nat):∀ k x,0<x→0<(wo f x k).1
 | 0,x,h=>h
 | k+1,x,h=>by
  unfold wo
  split
  ·rename_i h2
   have hd:=Nat.dvd_of_mod_eq_zero h2
   exact qy0 f k (x / f) (Nat.div_pos (Nat.le_of_dvd h hd) (by rcases Nat.eq_zero_or_pos f with e|e; (subst e;rw [Nat.zero_dvd] at hd;omega);exact e))
  exact h
def cyr (d a:Nat):Nat→Nat→Nat→Nat
 | 0,_,j=>j
 | k+1,p,j=>if p*10 % d=1∨100<a+(j+1) then j+1 else cyr d a k (p*10 % d) (j+1)
theorem qt_ {d a k p j:Nat} (h:p*10 % d=1∨100<a+(j+1)):cyr d a (k+1) p j=j+1:=by rw [cyr,if_pos h]
theorem qY8 {d a k p j:Nat} (h:¬ (p*10 % d=1∨100<a+(j+1))):cyr d a (k+1) p j=cyr d a k (p*10 % d) (j+1):=by rw [cyr,if_neg h]
def cyd (n:Nat):Nat:=(wo 5 (wo 2 n 101).1 101).1
def cya (n:Nat):Nat:=max (wo 2 n 101).2 (wo 5 (wo 2 n 101).1 101).2
def cyl (n:Nat):Nat:=if cyd n=1 then 0 else cyr (cyd n) (cya n) 101 1 0
def cyc (n:Nat):Int × Int × Int:=if 100<cya n+cyl n then (0,0,3) else ((cya n:Int),(cyl n:Int),0)
theorem qn0 (n f M r1 r2:Nat) (w:World) (HR1:Hid ((wo f n M).1=r1)) (HR2:Hid ((wo f n M).2+0=r2)) (HWN:Hid (wl n≤1000)) (hf:0<f) (hwf:wl f≤1) (hM:M≤1000) :
  CB 175 #[.agg #[.int .u64 (lo n),.string (bg n)],.agg #[.int .u64 (lo f),.string (bg f)],.int .i64 (((M:Nat):Int))] w ((.tuple #[.agg #[.int .u64 (lo r1),.string (bg r1)],.int .i64 ((r2:Nat):Int)])):=by
 have hwn:=HWN.out
 go_enter Tryz.func175,Tryz.ntmps175
 have I:=lh_ (hp0 w)
 refine kSl fun K O=>?_;go_wp2
 refine kF_ O (al3_ I) fun Wx0 J=>?_;clear O K
 clear I;have I:=J;clear J
 generalize w.heap.size+1+1=gx2 at *
 generalize w.heap.size+1=gx1 at *
 refine wp_seq ?_
 refine ks2_ fun K O T Y=>?_
 refine tk2_ ?_
 refine nz Y I O ?_;clear Y T I O K;intro vw1 I
 refine wp_block ?_
 go_loopg [13] M (fun k iv wr=>∃ i x:Nat,iv=.int .i64 (i:Int)∧i+k=M∧Hid ((wo f x k).1=r1)∧Hid ((wo f x k).2+i=r2)∧Hid (wl x≤1000)∧Hid (HP w wr [Sum.inl (w.heap.size,30,#[.int .u64 (lo x),.string (bg x)]),Sum.inl (gx1,30,#[.int .u64 (lo f),.string (bg f)]),Sum.inl (gx2,30,#[.int .u64 0,.string ⟨#[]⟩])]))
 case atStart=>exact ⟨0,n,rfl,by omega,HR1,HR2,HWN,I⟩
 case round =>
  rename_i J_ K_ h1_ h0_
  clear I
  obtain ⟨i,x,rfl,hik,HX1,HX2,HWX,I⟩:=hrel
  have hwx:=HWX.out
  rcases gk with _|k
  ·obtain rfl:x=r1:=HX1.out
   obtain rfl:M=r2:=by have:=HX2.out;rw [wo] at this;omega
   have hlt9:¬ (i:Int)<(M:Int):=by have:=hik;omega
   refine ks1_ fun K O T Y=>?_
   refine tk ?_
   refine nz Y I O ?_;clear Y T I O K;intro vw2 I
   clear hlt9
   refine wp_seq ?_
   refine wp_cond_false (by rfl) ?_
   refine wp_exit ?_
   show Code.wp _ _ _ _ _
   have lx0:=kc0_ I
   refine ks2_ fun K O T Y=>?_
   refine tk2_ ?_
   refine nlS Y I fun vw3 J=>?_
   clear Y T I lx0
   have lx2:=kc2_ J;have fx2:=kf2_ J
   have r0:=Gr.refl vw3
   go_wp2
   refine kO O ?_;clear O K
   clear r0 lx2 fx2
   refine fH ((((J.out).put2 2 0 rfl).er 1).er 0) fun Wx9 I=>?_
   clear J
   refine wp_ret ?_
   try simp only [Exit.then,Exit.inBlock]
   have lx2:=kc0_ I
   have r0:=Gr.refl Wx9
   exact bR ⟨rfl,I.out.1⟩ (by simp [results,Tryz.results175,go_sem,lx2 _ r0])
  by_cases hdv:x % f=0
  ·have HDV:=lh_ hdv
   clear hdv
   obtain ⟨y,HY⟩:=ex_ (x / f)
   have hlt9:(i:Int)<(M:Int):=by have:=hik;omega
   refine ks1_ fun K O T Y=>?_
   refine tk ?_
   refine nz Y I O ?_;clear Y T I O K;intro vw2 I
   clear hlt9
   refine wp_seq ?_
   refine wp_cond_true (by rfl) ?_
   refine wp_skip ?_
   show Code.wp _ _ _ _ _
   refine wp_seq ?_
   refine wp_block ?_
   refine ks2_ fun K O T Y=>?_
   refine tk2_ ?_
   refine nz Y I O ?_;clear Y T I O K;intro vw3 I
   have HZ1:Hid (x / f=y):=lh_ (HY.out)
   have su1:wl y≤1000:=by have e:=HZ1.out;first|omega|(rw [← e];have:=qh0 x f;omega)
   have HZ2:Hid (x % f=0):=lh_ (HDV.out)
   have su2:wl (0)≤1000:=by have e:=HZ2.out;first|omega|(rw [← e];have:=qj2 x f;omega)|exact qa2.2 (by decide +kernel)
   have lx0:=kc0_ I
   have lx1:=kc1_ I
   refine ks7_ fun K O T Y=>?_
   refine tk2_ ?_
   refine ck Tryz.call43 (fun w' hw=>qt8 x f y (0) _ HZ1.out HZ2.out ok om om) ?_
   iterate 4 refine tk ?_
   refine nlS Y I fun vw4 J=>?_
   clear Y T I lx0 lx1
   go_wp2
   refine kF_ O (((J.out).aL (vw4.heap.size)).aL (vw4.heap.size+1)) fun Wx4 I=>?_;clear O K
   clear J
   generalize vw4.heap.size+1=gx5 at *
   generalize vw4.heap.size=gx4 at *
   refine wp_seq ?_
   have lx5:=kc4_ I
   refine ks3_ fun K O T Y=>?_
   refine tk3_ ?_
   refine nz Y I O ?_;clear Y T I lx5 O K;intro vw5 I
   refine wp_cond_false (by rfl) ?_
   refine wp_skip ?_
   show Code.wp _ _ _ _ _
   have lx4:=kc3_ I
   refine kL fun K O=>?_
   refine sq1_ fun T Y=>?_
   refine tk ?_
   refine nlS Y I fun vw6 J=>?_
   clear Y T I lx4
   have lx0:=kc0_ J;have fx0:=kf0_ J
   have r0:=Gr.refl vw6
   go_wp2
   refine kO O ?_;clear O K
   clear r0 lx0 fx0
   refine fH ((J.out).put2 0 0 rfl) fun Wx7 I=>?_
   clear J
   have hwi:IntKind.i64.wrap ((i:Int)+1)=(i:Int)+1:=by rw [IntKind.wrap_i64];omega
   refine kL fun K O=>?_
   refine sq2_ fun T Y=>?_
   refine tk2_ ?_
   refine nlS Y I fun vw7 J=>?_
   clear Y T I
   go_wp2
   refine O.out _ _ ?_;clear O K
   try simp only [Exit.then,Exit.inBlock]
   have I:=lh_ (J.out);clear J
   clear hwi
   refine h0_ _ _ ?_
   go_roundg k
   case measure=>omega
   case rel=>exact ⟨i+1,y,by go_num,by omega,lh_ (by rw [← HX1.out,xM1 HDV.out,HY.out]),lh_ (by rw [← HX2.out,xM2 HDV.out,HY.out];omega),lh_ (by rw [← HY.out];exact Nat.le_trans (qh0 _ _) hwx),lh_ (((I.out).er 4).er 3)⟩
  have HDV:=lh_ hdv
  clear hdv
  obtain rfl:x=r1:=by have:=HX1.out;rwa [xg8 HDV.out] at this
  obtain rfl:i=r2:=by have:=HX2.out;rw [xg8 HDV.out] at this;omega
  have hlt9:(i:Int)<(M:Int):=by have:=hik;omega
  refine ks1_ fun K O T Y=>?_
  refine tk ?_
  refine nz Y I O ?_;clear Y T I O K;intro vw2 I
  clear hlt9
  refine wp_seq ?_
  refine wp_cond_true (by rfl) ?_
  refine wp_skip ?_
  show Code.wp _ _ _ _ _
  refine wp_seq ?_
  refine wp_block ?_
  refine ks2_ fun K O T Y=>?_
  refine tk2_ ?_
  refine nz Y I O ?_;clear Y T I O K;intro vw3 I
  obtain ⟨u1,HZ1⟩:=ex_ (x / f)
  have su1:wl u1≤1000:=by rw [← HZ1.out];have:=qh0 x f;omega
  have HZ2:Hid (x % f=(x % f)):=lh_ (rfl)
  have su2:wl ((x % f))≤1000:=by have:=qj2 x f;omega
  have lx0:=kc0_ I
  have lx1:=kc1_ I
  refine ks7_ fun K O T Y=>?_
  refine tk2_ ?_
  refine ck Tryz.call43 (fun w' hw=>qt8 x f u1 ((x % f)) _ HZ1.out HZ2.out xM9 om om) ?_
  iterate 4 refine tk ?_
  refine nlS Y I fun vw4 J=>?_
  clear Y T I lx0 lx1
  go_wp2
  refine kF_ O (((J.out).aL (vw4.heap.size)).aL (vw4.heap.size+1)) fun Wx4 I=>?_;clear O K
  clear J
  generalize vw4.heap.size+1=gx5 at *
  generalize vw4.heap.size=gx4 at *
  refine wp_seq ?_
  have hnz:decide (x % f=0)=false:=decide_eq_false HDV.out
  have lx5:=kc4_ I
  refine ks3_ fun K O T Y=>?_
  refine tk3_ ?_
  refine nz Y I O ?_;clear Y T I lx5 O K;intro vw5 I
  clear hnz
  refine wp_cond_true (by rfl) ?_
  have lx0:=kc0_ I
  refine ks2_ fun K O T Y=>?_
  refine tk2_ ?_
  refine nlS Y I fun vw6 J=>?_
  clear Y T I lx0
  have lx2:=kc2_ J;have fx2:=kf2_ J
  have r0:=Gr.refl vw6
  go_wp2
  refine kO O ?_;clear O K
  clear r0 lx2 fx2
  refine fH ((J.out).put2 2 0 rfl) fun Wx6 I=>?_
  clear J
  refine wp_ret ?_
  try simp only [Exit.then,Exit.inBlock]
  have lx2:=kc2_ I
  have r0:=Gr.refl Wx6
  exact bR ⟨rfl,I.out.1⟩ (by simp [results,Tryz.results175,go_sem,lx2 _ r0])
theorem xj4 (q:Rat) (x t d f a R:Nat) (c1 c2 c3:Int) (w:World) (HWX:Hid ((wo 2 q.den 101).1=x)) (HWT:Hid ((wo 2 q.den 101).2=t)) (HWD:Hid ((wo 5 x 101).1=d)) (HWF:Hid ((wo 5 x 101).2=f)) (HMX:Hid (max ((t:Nat):Int) ((f:Nat):Int)=(a:Int))) (ha:a≤101) (hs:sz q≤900) (HDN:Hid (¬ d=1)) (HD0:Hid (0<d)) (HR:Hid (cyr d a 101 1 0=R)) (HRES:Hid ((if 100<a+R then ((0:Int),(0:Int),(3:Int)) else ((a:Int),(R:Int),0))=(c1,c2,c3))) :
  CB 67 #[(Value.agg #[.int .u64 (lo q.num.natAbs),.string (bg q.num.natAbs),.bool (q.num<0),.int .u64 (lo (q.den - 1)),.string (bg (q.den - 1))])] w ((.tuple #[.int .i64 c1,.int .i64 c2,.int .i64 c3])):=by
 have hmx:=HMX.out
 go_enter Tryz.func67,Tryz.ntmps67
 have I:=lh_ (hp0 w)
 refine kSl fun K O=>?_;go_wp2
 refine kF_ O (al1_ I) fun Wx0 J=>?_;clear O K
 clear I;have I:=J;clear J
 have su1:wl (q.den)≤900:=Nat.le_trans (qb7 _) om
 have sp1:0<(q).den:=(q).den_pos
 have su_0_1:wl 2≤1:=qa2.2 (by decide +kernel)
 have HZ2:Hid ((wo (2) (q.den) 101).1=x):=lh_ (HWX.out)
 have su2:wl x≤900:=by have e:=HZ2.out;first|omega|(rw [← e];exact Nat.le_trans (qa6 (qD4 _ _ _).2) om)
 have lx0:=kc0_ I
 refine ks7_ fun K O T Y=>?_
 refine tk ?_
 refine ck Tryz.call38 (fun w' hw=>qA9 q _ om) ?_
 refine ck Tryz.call24 (fun w' hw=>nzof 2 _ (by decide)) ?_
 refine ck Tryz.call175 (fun w' hw=>qn0 (q.den) (2) 101 x t _ (lh_ HZ2.out) (lh_ (HWT.out)) (lh_ om) (by decide) (qc7 (by decide)) om) ?_
 refine tk3_ ?_
 refine nlS Y I fun vw1 J=>?_
 clear Y T I lx0
 go_wp2
 refine kF_ O (((J.out).aL (vw1.heap.size)).er 0) fun Wx1 I=>?_;clear O K
 clear J
 generalize vw1.heap.size=gx2 at *
 have su_1_2:wl 5≤1:=qa2.2 (by decide +kernel)
 have HZ3:Hid ((wo (5) x 101).1=d):=lh_ (HWD.out)
 have su3:wl d≤900:=by have e:=HZ3.out;first|omega|(rw [← e];exact Nat.le_trans (qa6 (qD4 _ _ _).2) om)
 have lx2:=kc0_ I
 refine kS fun K O=>?_
 refine qa1 6 [] [5] (fun _=>0) (fun _=>.cells #[] 0) [(true,0),(true,1),(true,2),(true,3),(true,4),(true,5)] (by kernel_rfl) (by kernel_rfl) (fun i hi=>by cases hi) zb3_ (fun _ _ _ _ _ h=>h) (fun T Y=>?_)
 refine tk ?_
 refine ck Tryz.call24 (fun w' hw=>nzof 5 _ (by decide)) ?_
 refine ck Tryz.call175 (fun w' hw=>qn0 x (5) 101 d f _ (lh_ HZ3.out) (lh_ (HWF.out)) (lh_ om) (by decide) (qc7 (by decide)) om) ?_
 refine tk3_ ?_
 refine qa0 (Y.out _ _ ?_)
 intro G vw2 hg hf
 simp only [puts,Act.put,lA,lB,lC,lD,lE,↓reduceIte,Nat.reduceEqDiff]
 have J:=lh_ (I.out.gr hg)
 clear Y T I hg hf lx2
 have lx2:=kc0_ J;have fx2:=kf0_ J
 have r0:=Gr.refl vw2
 go_wp2
 refine kO O ?_;clear O K
 clear r0 lx2 fx2
 refine fH ((J.out).put2 0 0 rfl) fun Wx2 I=>?_
 clear J
 refine ks4_ fun K O T Y=>?_
 iterate 4 refine tk ?_
 refine nz Y I O ?_;clear Y T I O K;intro vw3 I
 have su_2_4:wl 1≤1:=qa2.2 (by decide +kernel)
 have su_3_4:wl 1≤1:=qa2.2 (by decide +kernel)
 refine ks2_ fun K O T Y=>?_
 refine ck Tryz.call24 (fun w' hw=>nzof 1 _ (by decide)) ?_
 refine ck Tryz.call24 (fun w' hw=>nzof 1 _ (by decide)) ?_
 refine nlS Y I fun vw4 J=>?_
 clear Y T I
 go_wp2
 refine kF_ O (((J.out).aL (vw4.heap.size)).aL (vw4.heap.size+1)) fun Wx4 I=>?_;clear O K
 clear J
 generalize vw4.heap.size+1=gx4 at *
 generalize vw4.heap.size=gx3 at *
 refine wp_seq ?_
 refine wp_block ?_
 go_loopg [3] 101 (fun k iv wr=>∃ j p:Nat,iv=.int .i64 (j:Int)∧j+k=101∧j≤100∧Hid (cyr d a k p j=R)∧Hid (wl p≤1000)∧Hid (HP w wr [Sum.inl (gx2,30,#[.int .u64 (lo d),.string (bg d)]),Sum.inl (gx3,30,#[.int .u64 (lo p),.string (bg p)]),Sum.inl (gx4,30,#[.int .u64 (lo (1)),.string (bg (1))])]))
 case atStart=>exact ⟨0,1,rfl,by omega,by omega,HR,lh_ (qa2.2 (by decide +kernel)),I⟩
 case round =>
  rename_i J_ K_ h1_ h0_
  clear I
  obtain ⟨j,p,rfl,hik,hj,HX,HWP,I⟩:=hrel
  have hwp:=HWP.out
  obtain ⟨k,rfl⟩:∃ k,gk=k+1:=⟨gk - 1,by omega⟩
  obtain ⟨q,HQ⟩:=ex_ (p*10 % d)
  by_cases hq:q=1
  ·obtain rfl:R=j+1:=by have e:=HX.out;rwa [qt_ (.inl (by rw [HQ.out,hq])),eq_comm] at e
   subst hq
   by_cases hfar:100<a+(j+1)
   ·have HC:Hid ((0:Int)=c1∧(0:Int)=c2∧(3:Int)=c3):=lh_ (by have e:=HRES.out;rw [if_pos hfar] at e;simpa using e)
    obtain ⟨rfl,rfl,rfl⟩:=HC.out
    clear HC HRES
    refine wp_seq ?_
    have hd1:decide (d=1)=false:=decide_eq_false HDN.out
    have lx2:=kc0_ I
    have lx4:=kc2_ I
    refine ks3_ fun K O T Y=>?_
    refine tk3_ ?_
    refine nz Y I O ?_;clear Y T I lx2 lx4 O K;intro vw5 I
    clear hd1
    refine wp_cond_true (by rfl) ?_
    refine wp_skip ?_
    show Code.wp _ _ _ _ _
    refine wp_block ?_
    have su_4_6:wl 10≤1:=qa2.2 (by decide +kernel)
    obtain ⟨u4,HZ4⟩:=ex_ (p*(10))
    have su4:wl u4≤1001:=by rw [← HZ4.out];have:=qg8 p (10);omega
    obtain ⟨u5,HZ5⟩:=ex_ (u4 / d)
    have su5:wl u5≤1001:=by rw [← HZ5.out];have:=qh0 u4 d;omega
    have HZ6:Hid (u4 % d=1):=lh_ xr1
    have su6:wl (1)≤1001:=by have e:=HZ6.out;first|omega|(rw [← e];have:=qj2 u4 d;omega)|exact qa2.2 (by decide +kernel)
    have lx2:=kc0_ I
    have lx3:=kc1_ I
    refine kS fun K O=>?_
    refine qa1 9 [] [8] (fun _=>0) (fun _=>.cells #[] 0) [(true,0),(true,3),(true,1),(true,2),(true,4),(true,5),(true,6),(true,7),(true,8)] (by kernel_rfl) (by kernel_rfl) (fun i hi=>by cases hi) zb3_ (fun _ _ _ _ _ h=>h) (fun T Y=>?_)
    refine tk2_ ?_
    refine ck Tryz.call24 (fun w' hw=>nzof 10 _ (by decide)) ?_
    refine ck Tryz.call110 (fun w' hw=>qT5 p (10) u4 _ HZ4.out om om) ?_
    refine ck Tryz.call43 (fun w' hw=>qt8 u4 d u5 (1) _ HZ5.out HZ6.out (by exact HD0.out) om om) ?_
    iterate 4 refine tk ?_
    refine qa0 (Y.out _ _ ?_)
    intro G vw6 hg hf
    simp only [puts,Act.put,lA,lB,lC,lD,lE,↓reduceIte,Nat.reduceEqDiff]
    have J:=lh_ (I.out.gr hg)
    clear Y T I hg hf lx2 lx3
    have lx3:=kc1_ J;have fx3:=kf1_ J
    have r0:=Gr.refl vw6
    go_wp2
    refine kO O ?_;clear O K
    clear r0 lx3 fx3
    refine fH ((J.out).put2 1 0 rfl) fun Wx6 I=>?_
    clear J
    have hwj:IntKind.i64.wrap ((j:Int)+1)=(j:Int)+1:=by rw [IntKind.wrap_i64];omega
    refine ks3_ fun K O T Y=>?_
    refine tk3_ ?_
    refine nz Y I O ?_;clear Y T I O K;intro vw7 I
    clear hwj
    have lx3:=kc1_ I
    have lx4:=kc2_ I
    refine ks9_ fun K O T Y=>?_
    iterate 4 refine tk ?_
    iterate 4 refine sk ?_
    refine tk ?_
    refine nz Y I O ?_;clear Y T I lx3 lx4 O K;intro vw8 I
    refine wp_cond_true (by rfl) ?_
    refine wp_exit ?_
    show Code.wp _ _ _ _ _
    refine wp_seq ?_
    have hws:IntKind.i64.wrap ((a:Int)+((j:Int)+1))=(a:Int)+((j:Int)+1):=by rw [IntKind.wrap_i64];omega
    have hgf:100<(a:Int)+((j:Int)+1):=by omega
    refine ks4_ fun K O T Y=>?_
    iterate 4 refine tk ?_
    refine nzR Y O (fun w2 hg=>(((I.out.gr hg).er 2).er 1).er 0) ?_;clear Y T I O K;intro Wx9 I
    clear hws hgf
    refine wp_cond_true (by rfl) ?_
    refine kSl fun K O=>?_;go_wp2
    refine kF_ O (I.out) fun Wx10 J=>?_;clear O K
    clear I;have I:=J;clear J
    refine wp_ret ?_
    try simp only [Exit.then,Exit.inBlock]
    exact bR ⟨rfl,I.out.1⟩ xh7
   have HC:Hid ((a:Int)=c1∧(j:Int)+1=c2∧(0:Int)=c3):=lh_ (by have e:=HRES.out;rw [if_neg hfar] at e;simpa using e)
   obtain ⟨rfl,rfl,rfl⟩:=HC.out
   clear HC HRES
   refine wp_seq ?_
   have hd1:decide (d=1)=false:=decide_eq_false HDN.out
   have lx2:=kc0_ I
   have lx4:=kc2_ I
   refine ks3_ fun K O T Y=>?_
   refine tk3_ ?_
   refine nz Y I O ?_;clear Y T I lx2 lx4 O K;intro vw5 I
   clear hd1
   refine wp_cond_true (by rfl) ?_
   refine wp_skip ?_
   show Code.wp _ _ _ _ _
   refine wp_block ?_
   have su_4_6:wl 10≤1:=qa2.2 (by decide +kernel)
   obtain ⟨u4,HZ4⟩:=ex_ (p*(10))
   have su4:wl u4≤1001:=by rw [← HZ4.out];have:=qg8 p (10);omega
   obtain ⟨u5,HZ5⟩:=ex_ (u4 / d)
   have su5:wl u5≤1001:=by rw [← HZ5.out];have:=qh0 u4 d;omega
   have HZ6:Hid (u4 % d=1):=lh_ xr1
   have su6:wl (1)≤1001:=by have e:=HZ6.out;first|omega|(rw [← e];have:=qj2 u4 d;omega)|exact qa2.2 (by decide +kernel)
   have lx2:=kc0_ I
   have lx3:=kc1_ I
   refine kS fun K O=>?_
   refine qa1 9 [] [8] (fun _=>0) (fun _=>.cells #[] 0) [(true,0),(true,3),(true,1),(true,2),(true,4),(true,5),(true,6),(true,7),(true,8)] (by kernel_rfl) (by kernel_rfl) (fun i hi=>by cases hi) zb3_ (fun _ _ _ _ _ h=>h) (fun T Y=>?_)
   refine tk2_ ?_
   refine ck Tryz.call24 (fun w' hw=>nzof 10 _ (by decide)) ?_
   refine ck Tryz.call110 (fun w' hw=>qT5 p (10) u4 _ HZ4.out om om) ?_
   refine ck Tryz.call43 (fun w' hw=>qt8 u4 d u5 (1) _ HZ5.out HZ6.out (by exact HD0.out) om om) ?_
   iterate 4 refine tk ?_
   refine qa0 (Y.out _ _ ?_)
   intro G vw6 hg hf
   simp only [puts,Act.put,lA,lB,lC,lD,lE,↓reduceIte,Nat.reduceEqDiff]
   have J:=lh_ (I.out.gr hg)
   clear Y T I hg hf lx2 lx3
   have lx3:=kc1_ J;have fx3:=kf1_ J
   have r0:=Gr.refl vw6
   go_wp2
   refine kO O ?_;clear O K
   clear r0 lx3 fx3
   refine fH ((J.out).put2 1 0 rfl) fun Wx6 I=>?_
   clear J
   have hwj:IntKind.i64.wrap ((j:Int)+1)=(j:Int)+1:=by rw [IntKind.wrap_i64];omega
   refine ks3_ fun K O T Y=>?_
   refine tk3_ ?_
   refine nz Y I O ?_;clear Y T I O K;intro vw7 I
   clear hwj
   have lx3:=kc1_ I
   have lx4:=kc2_ I
   refine ks9_ fun K O T Y=>?_
   iterate 4 refine tk ?_
   iterate 4 refine sk ?_
   refine tk ?_
   refine nz Y I O ?_;clear Y T I lx3 lx4 O K;intro vw8 I
   refine wp_cond_true (by rfl) ?_
   refine wp_exit ?_
   show Code.wp _ _ _ _ _
   refine wp_seq ?_
   have hws:IntKind.i64.wrap ((a:Int)+((j:Int)+1))=(a:Int)+((j:Int)+1):=by rw [IntKind.wrap_i64];omega
   have hgf:¬ 100<(a:Int)+((j:Int)+1):=by omega
   refine ks4_ fun K O T Y=>?_
   iterate 4 refine tk ?_
   refine nzR Y O (fun w2 hg=>(((I.out.gr hg).er 2).er 1).er 0) ?_;clear Y T I O K;intro Wx9 I
   clear hws hgf
   refine wp_cond_false (by rfl) ?_
   refine wp_skip ?_
   show Code.wp _ _ _ _ _
   refine ks5_ fun K O T Y=>?_
   iterate 5 refine tk ?_
   refine nz Y I O ?_;clear Y T I O K;intro vw10 I
   refine wp_ret ?_
   try simp only [Exit.then,Exit.inBlock]
   exact bR ⟨rfl,I.out.1⟩ xh7
  have HNQ:=lh_ hq
  clear hq
  by_cases hfar:100<a+(j+1)
  ·obtain rfl:R=j+1:=by have e:=HX.out;rwa [qt_ (.inr hfar),eq_comm] at e
   have HC:Hid ((0:Int)=c1∧(0:Int)=c2∧(3:Int)=c3):=lh_ (by have e:=HRES.out;rw [if_pos hfar] at e;simpa using e)
   obtain ⟨rfl,rfl,rfl⟩:=HC.out
   clear HC HRES
   refine wp_seq ?_
   have hd1:decide (d=1)=false:=decide_eq_false HDN.out
   have lx2:=kc0_ I
   have lx4:=kc2_ I
   refine ks3_ fun K O T Y=>?_
   refine tk3_ ?_
   refine nz Y I O ?_;clear Y T I lx2 lx4 O K;intro vw5 I
   clear hd1
   refine wp_cond_true (by rfl) ?_
   refine wp_skip ?_
   show Code.wp _ _ _ _ _
   refine wp_block ?_
   have su_4_6:wl 10≤1:=qa2.2 (by decide +kernel)
   obtain ⟨u4,HZ4⟩:=ex_ (p*(10))
   have su4:wl u4≤1001:=by rw [← HZ4.out];have:=qg8 p (10);omega
   obtain ⟨u5,HZ5⟩:=ex_ (u4 / d)
   have su5:wl u5≤1001:=by rw [← HZ5.out];have:=qh0 u4 d;omega
   have HZ6:Hid (u4 % d=q):=lh_ xr1
   have su6:wl q≤1001:=by have e:=HZ6.out;first|omega|(rw [← e];have:=qj2 u4 d;omega)
   have lx2:=kc0_ I
   have lx3:=kc1_ I
   refine kS fun K O=>?_
   refine qa1 9 [] [8] (fun _=>0) (fun _=>.cells #[] 0) [(true,0),(true,3),(true,1),(true,2),(true,4),(true,5),(true,6),(true,7),(true,8)] (by kernel_rfl) (by kernel_rfl) (fun i hi=>by cases hi) zb3_ (fun _ _ _ _ _ h=>h) (fun T Y=>?_)
   refine tk2_ ?_
   refine ck Tryz.call24 (fun w' hw=>nzof 10 _ (by decide)) ?_
   refine ck Tryz.call110 (fun w' hw=>qT5 p (10) u4 _ HZ4.out om om) ?_
   refine ck Tryz.call43 (fun w' hw=>qt8 u4 d u5 q _ HZ5.out HZ6.out (by exact HD0.out) om om) ?_
   iterate 4 refine tk ?_
   refine qa0 (Y.out _ _ ?_)
   intro G vw6 hg hf
   simp only [puts,Act.put,lA,lB,lC,lD,lE,↓reduceIte,Nat.reduceEqDiff]
   have J:=lh_ (I.out.gr hg)
   clear Y T I hg hf lx2 lx3
   have lx3:=kc1_ J;have fx3:=kf1_ J
   have r0:=Gr.refl vw6
   go_wp2
   refine kO O ?_;clear O K
   clear r0 lx3 fx3
   refine fH ((J.out).put2 1 0 rfl) fun Wx6 I=>?_
   clear J
   have hwj:IntKind.i64.wrap ((j:Int)+1)=(j:Int)+1:=by rw [IntKind.wrap_i64];omega
   refine ks3_ fun K O T Y=>?_
   refine tk3_ ?_
   refine nz Y I O ?_;clear Y T I O K;intro vw7 I
   clear hwj
   have hq1:decide (q=1)=false:=decide_eq_false HNQ.out
   have hwt:IntKind.i64.wrap ((a:Int)+((j:Int)+1))=(a:Int)+((j:Int)+1):=by rw [IntKind.wrap_i64];omega
   have hgt:100<(a:Int)+((j:Int)+1):=by omega
   have lx3:=kc1_ I
   have lx4:=kc2_ I
   refine ks9_ fun K O T Y=>?_
   iterate 9 refine tk ?_
   refine nz Y I O ?_;clear Y T I lx3 lx4 O K;intro vw8 I
   clear hq1 hwt hgt
   refine wp_cond_true (by rfl) ?_
   refine wp_exit ?_
   show Code.wp _ _ _ _ _
   refine wp_seq ?_
   have hws:IntKind.i64.wrap ((a:Int)+((j:Int)+1))=(a:Int)+((j:Int)+1):=by rw [IntKind.wrap_i64];omega
   have hgf:100<(a:Int)+((j:Int)+1):=by omega
   refine ks4_ fun K O T Y=>?_
   iterate 4 refine tk ?_
   refine nzR Y O (fun w2 hg=>(((I.out.gr hg).er 2).er 1).er 0) ?_;clear Y T I O K;intro Wx9 I
   clear hws hgf
   refine wp_cond_true (by rfl) ?_
   refine kSl fun K O=>?_;go_wp2
   refine kF_ O (I.out) fun Wx10 J=>?_;clear O K
   clear I;have I:=J;clear J
   refine wp_ret ?_
   try simp only [Exit.then,Exit.inBlock]
   exact bR ⟨rfl,I.out.1⟩ xh7
  refine wp_seq ?_
  have hd1:decide (d=1)=false:=decide_eq_false HDN.out
  have lx2:=kc0_ I
  have lx4:=kc2_ I
  refine ks3_ fun K O T Y=>?_
  refine tk3_ ?_
  refine nz Y I O ?_;clear Y T I lx2 lx4 O K;intro vw5 I
  clear hd1
  refine wp_cond_true (by rfl) ?_
  refine wp_skip ?_
  show Code.wp _ _ _ _ _
  refine wp_block ?_
  have su_4_6:wl 10≤1:=qa2.2 (by decide +kernel)
  obtain ⟨u4,HZ4⟩:=ex_ (p*(10))
  have su4:wl u4≤1001:=by rw [← HZ4.out];have:=qg8 p (10);omega
  obtain ⟨u5,HZ5⟩:=ex_ (u4 / d)
  have su5:wl u5≤1001:=by rw [← HZ5.out];have:=qh0 u4 d;omega
  have HZ6:Hid (u4 % d=q):=lh_ xr1
  have su6:wl q≤1001:=by have e:=HZ6.out;first|omega|(rw [← e];have:=qj2 u4 d;omega)
  have lx2:=kc0_ I
  have lx3:=kc1_ I
  refine kS fun K O=>?_
  refine qa1 9 [] [8] (fun _=>0) (fun _=>.cells #[] 0) [(true,0),(true,3),(true,1),(true,2),(true,4),(true,5),(true,6),(true,7),(true,8)] (by kernel_rfl) (by kernel_rfl) (fun i hi=>by cases hi) zb3_ (fun _ _ _ _ _ h=>h) (fun T Y=>?_)
  refine tk2_ ?_
  refine ck Tryz.call24 (fun w' hw=>nzof 10 _ (by decide)) ?_
  refine ck Tryz.call110 (fun w' hw=>qT5 p (10) u4 _ HZ4.out om om) ?_
  refine ck Tryz.call43 (fun w' hw=>qt8 u4 d u5 q _ HZ5.out HZ6.out (by exact HD0.out) om om) ?_
  iterate 4 refine tk ?_
  refine qa0 (Y.out _ _ ?_)
  intro G vw6 hg hf
  simp only [puts,Act.put,lA,lB,lC,lD,lE,↓reduceIte,Nat.reduceEqDiff]
  have J:=lh_ (I.out.gr hg)
  clear Y T I hg hf lx2 lx3
  have lx3:=kc1_ J;have fx3:=kf1_ J
  have r0:=Gr.refl vw6
  go_wp2
  refine kO O ?_;clear O K
  clear r0 lx3 fx3
  refine fH ((J.out).put2 1 0 rfl) fun Wx6 I=>?_
  clear J
  have hwj:IntKind.i64.wrap ((j:Int)+1)=(j:Int)+1:=by rw [IntKind.wrap_i64];omega
  refine ks3_ fun K O T Y=>?_
  refine tk3_ ?_
  refine nz Y I O ?_;clear Y T I O K;intro vw7 I
  clear hwj
  have hq1:decide (q=1)=false:=decide_eq_false HNQ.out
  have hwt:IntKind.i64.wrap ((a:Int)+((j:Int)+1))=(a:Int)+((j:Int)+1):=by rw [IntKind.wrap_i64];omega
  have hgt:¬ 100<(a:Int)+((j:Int)+1):=by omega
  have lx3:=kc1_ I
  have lx4:=kc2_ I
  refine ks9_ fun K O T Y=>?_
  iterate 9 refine tk ?_
  refine nz Y I O ?_;clear Y T I lx3 lx4 O K;intro vw8 I
  clear hq1 hwt hgt
  refine wp_cond_false (by rfl) ?_
  refine wp_skip ?_
  try simp only [Exit.then,Exit.inBlock]
  refine h0_ _ _ ?_
  go_roundg k
  case measure=>omega
  case rel=>exact ⟨j+1,q,rfl,by omega,by omega,lh_ (by have e:=HX.out;rwa [qY8 (by rw [HQ.out];rintro (h|h);exact HNQ.out h;omega),HQ.out] at e),lh_ (by rw [← HQ.out];exact Nat.le_trans (qa6 (Nat.le_of_lt (Nat.mod_lt _ HD0.out))) om),lh_ (I.out)⟩
theorem xj2 (q:Rat) (x t f a:Nat) (w:World) (HWX:Hid ((wo 2 q.den 101).1=x)) (HWT:Hid ((wo 2 q.den 101).2=t)) (HWD:Hid ((wo 5 x 101).1=1)) (HWF:Hid ((wo 5 x 101).2=f)) (HMX:Hid (max ((t:Nat):Int) ((f:Nat):Int)=(a:Int))) (ha:a≤101) (hs:sz q≤900) (hfar:¬ 100<a) :
  CB 67 #[(Value.agg #[.int .u64 (lo q.num.natAbs),.string (bg q.num.natAbs),.bool (q.num<0),.int .u64 (lo (q.den - 1)),.string (bg (q.den - 1))])] w ((.tuple #[.int .i64 (a:Int),.int .i64 0,.int .i64 0])):=by
 have hmx:=HMX.out
 go_enter Tryz.func67,Tryz.ntmps67
 have I:=lh_ (hp0 w)
 refine kSl fun K O=>?_;go_wp2
 refine kF_ O (al1_ I) fun Wx0 J=>?_;clear O K
 clear I;have I:=J;clear J
 have su1:wl (q.den)≤900:=Nat.le_trans (qb7 _) om
 have sp1:0<(q).den:=(q).den_pos
 have su_0_1:wl 2≤1:=qa2.2 (by decide +kernel)
 have HZ2:Hid ((wo (2) (q.den) 101).1=x):=lh_ (HWX.out)
 have su2:wl x≤900:=by have e:=HZ2.out;first|omega|(rw [← e];exact Nat.le_trans (qa6 (qD4 _ _ _).2) om)
 have lx0:=kc0_ I
 refine ks7_ fun K O T Y=>?_
 refine tk ?_
 refine ck Tryz.call38 (fun w' hw=>qA9 q _ om) ?_
 refine ck Tryz.call24 (fun w' hw=>nzof 2 _ (by decide)) ?_
 refine ck Tryz.call175 (fun w' hw=>qn0 (q.den) (2) 101 x t _ (lh_ HZ2.out) (lh_ (HWT.out)) (lh_ om) (by decide) (qc7 (by decide)) om) ?_
 refine tk3_ ?_
 refine nlS Y I fun vw1 J=>?_
 clear Y T I lx0
 go_wp2
 refine kF_ O (((J.out).aL (vw1.heap.size)).er 0) fun Wx1 I=>?_;clear O K
 clear J
 generalize vw1.heap.size=gx2 at *
 have su_1_2:wl 5≤1:=qa2.2 (by decide +kernel)
 have HZ3:Hid ((wo (5) x 101).1=1):=lh_ (HWD.out)
 have su3:wl (1)≤900:=by have e:=HZ3.out;first|omega|(rw [← e];exact Nat.le_trans (qa6 (qD4 _ _ _).2) om)|exact qa2.2 (by decide +kernel)
 have lx2:=kc0_ I
 refine kS fun K O=>?_
 refine qa1 6 [] [5] (fun _=>0) (fun _=>.cells #[] 0) [(true,0),(true,1),(true,2),(true,3),(true,4),(true,5)] (by kernel_rfl) (by kernel_rfl) (fun i hi=>by cases hi) zb3_ (fun _ _ _ _ _ h=>h) (fun T Y=>?_)
 refine tk ?_
 refine ck Tryz.call24 (fun w' hw=>nzof 5 _ (by decide)) ?_
 refine ck Tryz.call175 (fun w' hw=>qn0 x (5) 101 (1) f _ (lh_ HZ3.out) (lh_ (HWF.out)) (lh_ om) (by decide) (qc7 (by decide)) om) ?_
 refine tk3_ ?_
 refine qa0 (Y.out _ _ ?_)
 intro G vw2 hg hf
 simp only [puts,Act.put,lA,lB,lC,lD,lE,↓reduceIte,Nat.reduceEqDiff]
 have J:=lh_ (I.out.gr hg)
 clear Y T I hg hf lx2
 have lx2:=kc0_ J;have fx2:=kf0_ J
 have r0:=Gr.refl vw2
 go_wp2
 refine kO O ?_;clear O K
 clear r0 lx2 fx2
 refine fH ((J.out).put2 0 0 rfl) fun Wx2 I=>?_
 clear J
 refine ks4_ fun K O T Y=>?_
 iterate 4 refine tk ?_
 refine nz Y I O ?_;clear Y T I O K;intro vw3 I
 have su_2_4:wl 1≤1:=qa2.2 (by decide +kernel)
 have su_3_4:wl 1≤1:=qa2.2 (by decide +kernel)
 refine ks2_ fun K O T Y=>?_
 refine ck Tryz.call24 (fun w' hw=>nzof 1 _ (by decide)) ?_
 refine ck Tryz.call24 (fun w' hw=>nzof 1 _ (by decide)) ?_
 refine nlS Y I fun vw4 J=>?_
 clear Y T I
 go_wp2
 refine kF_ O (((J.out).aL (vw4.heap.size)).aL (vw4.heap.size+1)) fun Wx4 I=>?_;clear O K
 clear J
 generalize vw4.heap.size+1=gx4 at *
 generalize vw4.heap.size=gx3 at *
 refine wp_seq ?_
 refine wp_block ?_
 refine wp_loop_rounds 12 ?_
 rw [rounds_succ]
 refine wp_seq ?_
 have lx2:=kc0_ I
 have lx4:=kc2_ I
 refine ks3_ fun K O T Y=>?_
 refine tk3_ ?_
 refine nz Y I O ?_;clear Y T I lx2 lx4 O K;intro vw5 I
 refine wp_cond_false (by rfl) ?_
 refine wp_exit ?_
 show Code.wp _ _ _ _ _
 refine wp_seq ?_
 have hws:IntKind.i64.wrap (a:Int)=(a:Int):=by rw [IntKind.wrap_i64];omega
 have hgf:¬ 100<(a:Int):=by omega
 refine ks4_ fun K O T Y=>?_
 iterate 4 refine tk ?_
 refine nzR Y O (fun w2 hg=>(((I.out.gr hg).er 2).er 1).er 0) ?_;clear Y T I O K;intro Wx9 I
 clear hws hgf
 refine wp_cond_false (by rfl) ?_
 refine wp_skip ?_
 show Code.wp _ _ _ _ _
 refine ks5_ fun K O T Y=>?_
 iterate 5 refine tk ?_
 refine nz Y I O ?_;clear Y T I O K;intro vw7 I
 refine wp_ret ?_
 try simp only [Exit.then,Exit.inBlock]
 exact bR ⟨rfl,I.out.1⟩ xh7
theorem xj3 (q:Rat) (x t f a:Nat) (w:World) (HWX:Hid ((wo 2 q.den 101).1=x)) (HWT:Hid ((wo 2 q.den 101).2=t)) (HWD:Hid ((wo 5 x 101).1=1)) (HWF:Hid ((wo 5 x 101).2=f)) (HMX:Hid (max ((t:Nat):Int) ((f:Nat):Int)=(a:Int))) (ha:a≤101) (hs:sz q≤900) (hfar:100<a) :
  CB 67 #[(Value.agg #[.int .u64 (lo q.num.natAbs),.string (bg q.num.natAbs),.bool (q.num<0),.int .u64 (lo (q.den - 1)),.string (bg (q.den - 1))])] w ((.tuple #[.int .i64 0,.int .i64 0,.int .i64 3])):=by
 have hmx:=HMX.out
 go_enter Tryz.func67,Tryz.ntmps67
 have I:=lh_ (hp0 w)
 refine kSl fun K O=>?_;go_wp2
 refine kF_ O (al1_ I) fun Wx0 J=>?_;clear O K
 clear I;have I:=J;clear J
 have su1:wl (q.den)≤900:=Nat.le_trans (qb7 _) om
 have sp1:0<(q).den:=(q).den_pos
 have su_0_1:wl 2≤1:=qa2.2 (by decide +kernel)
 have HZ2:Hid ((wo (2) (q.den) 101).1=x):=lh_ (HWX.out)
 have su2:wl x≤900:=by have e:=HZ2.out;first|omega|(rw [← e];exact Nat.le_trans (qa6 (qD4 _ _ _).2) om)
 have lx0:=kc0_ I
 refine ks7_ fun K O T Y=>?_
 refine tk ?_
 refine ck Tryz.call38 (fun w' hw=>qA9 q _ om) ?_
 refine ck Tryz.call24 (fun w' hw=>nzof 2 _ (by decide)) ?_
 refine ck Tryz.call175 (fun w' hw=>qn0 (q.den) (2) 101 x t _ (lh_ HZ2.out) (lh_ (HWT.out)) (lh_ om) (by decide) (qc7 (by decide)) om) ?_
 refine tk3_ ?_
 refine nlS Y I fun vw1 J=>?_
 clear Y T I lx0
 go_wp2
 refine kF_ O (((J.out).aL (vw1.heap.size)).er 0) fun Wx1 I=>?_;clear O K
 clear J
 generalize vw1.heap.size=gx2 at *
 have su_1_2:wl 5≤1:=qa2.2 (by decide +kernel)
 have HZ3:Hid ((wo (5) x 101).1=1):=lh_ (HWD.out)
 have su3:wl (1)≤900:=by have e:=HZ3.out;first|omega|(rw [← e];exact Nat.le_trans (qa6 (qD4 _ _ _).2) om)|exact qa2.2 (by decide +kernel)
 have lx2:=kc0_ I
 refine kS fun K O=>?_
 refine qa1 6 [] [5] (fun _=>0) (fun _=>.cells #[] 0) [(true,0),(true,1),(true,2),(true,3),(true,4),(true,5)] (by kernel_rfl) (by kernel_rfl) (fun i hi=>by cases hi) zb3_ (fun _ _ _ _ _ h=>h) (fun T Y=>?_)
 refine tk ?_
 refine ck Tryz.call24 (fun w' hw=>nzof 5 _ (by decide)) ?_
 refine ck Tryz.call175 (fun w' hw=>qn0 x (5) 101 (1) f _ (lh_ HZ3.out) (lh_ (HWF.out)) (lh_ om) (by decide) (qc7 (by decide)) om) ?_
 refine tk3_ ?_
 refine qa0 (Y.out _ _ ?_)
 intro G vw2 hg hf
 simp only [puts,Act.put,lA,lB,lC,lD,lE,↓reduceIte,Nat.reduceEqDiff]
 have J:=lh_ (I.out.gr hg)
 clear Y T I hg hf lx2
 have lx2:=kc0_ J;have fx2:=kf0_ J
 have r0:=Gr.refl vw2
 go_wp2
 refine kO O ?_;clear O K
 clear r0 lx2 fx2
 refine fH ((J.out).put2 0 0 rfl) fun Wx2 I=>?_
 clear J
 refine ks4_ fun K O T Y=>?_
 iterate 4 refine tk ?_
 refine nz Y I O ?_;clear Y T I O K;intro vw3 I
 have su_2_4:wl 1≤1:=qa2.2 (by decide +kernel)
 have su_3_4:wl 1≤1:=qa2.2 (by decide +kernel)
 refine ks2_ fun K O T Y=>?_
 refine ck Tryz.call24 (fun w' hw=>nzof 1 _ (by decide)) ?_
 refine ck Tryz.call24 (fun w' hw=>nzof 1 _ (by decide)) ?_
 refine nlS Y I fun vw4 J=>?_
 clear Y T I
 go_wp2
 refine kF_ O (((J.out).aL (vw4.heap.size)).aL (vw4.heap.size+1)) fun Wx4 I=>?_;clear O K
 clear J
 generalize vw4.heap.size+1=gx4 at *
 generalize vw4.heap.size=gx3 at *
 refine wp_seq ?_
 refine wp_block ?_
 refine wp_loop_rounds 12 ?_
 rw [rounds_succ]
 refine wp_seq ?_
 have lx2:=kc0_ I
 have lx4:=kc2_ I
 refine ks3_ fun K O T Y=>?_
 refine tk3_ ?_
 refine nz Y I O ?_;clear Y T I lx2 lx4 O K;intro vw5 I
 refine wp_cond_false (by rfl) ?_
 refine wp_exit ?_
 show Code.wp _ _ _ _ _
 refine wp_seq ?_
 have hws:IntKind.i64.wrap (a:Int)=(a:Int):=by rw [IntKind.wrap_i64];omega
 have hgf:100<(a:Int):=by omega
 refine ks4_ fun K O T Y=>?_
 iterate 4 refine tk ?_
 refine nzR Y O (fun w2 hg=>(((I.out.gr hg).er 2).er 1).er 0) ?_;clear Y T I O K;intro Wx9 I
 clear hws hgf
 refine wp_cond_true (by rfl) ?_
 refine kSl fun K O=>?_;go_wp2
 refine kF_ O (I.out) fun Wx10 J=>?_;clear O K
 clear I;have I:=J;clear J
 refine wp_ret ?_
 try simp only [Exit.then,Exit.inBlock]
 exact bR ⟨rfl,I.out.1⟩ xh7
theorem qf8 (q:Rat) (c1 c2 c3:Int) (w:World) (h:cyc q.den=(c1,c2,c3)) (hs:sz q≤900) :
  CB 67 #[(Value.agg #[.int .u64 (lo q.num.natAbs),.string (bg q.num.natAbs),.bool (q.num<0),.int .u64 (lo (q.den - 1)),.string (bg (q.den - 1))])] w (.tuple #[.int .i64 c1,.int .i64 c2,.int .i64 c3]):=by
 have a1:=(qD4 2 101 q.den).1
 have a2:=(qD4 5 101 (wo 2 q.den 101).1).1
 have hp:0<cyd q.den:=qy0 _ _ _ (qy0 _ _ _ q.den_pos)
 have hmx:max (((wo 2 q.den 101).2:Nat):Int) (((wo 5 (wo 2 q.den 101).1 101).2:Nat):Int)=((cya q.den:Nat):Int):=by unfold cya;omega
 have hca:cya q.den≤101:=by unfold cya;omega
 unfold cyc cyl at h
 by_cases hd:cyd q.den=1
 ·rw [if_pos hd] at h
  by_cases hf:100<cya q.den
  ·rw [if_pos om] at h
   injection h with h1 h2;injection h2 with h2 h3;subst h1 h2 h3
   exact xj3 q _ _ _ _ w (lh_ rfl) (lh_ rfl) (lh_ hd) (lh_ rfl) (lh_ hmx) hca hs hf
  rw [if_neg om] at h
  injection h with h1 h2;injection h2 with h2 h3;subst h1 h2 h3
  exact xj2 q _ _ _ _ w (lh_ rfl) (lh_ rfl) (lh_ hd) (lh_ rfl) (lh_ hmx) hca hs hf
 rw [if_neg hd] at h
 exact xj4 q _ _ _ _ _ _ _ _ _ w (lh_ rfl) (lh_ rfl) (lh_ rfl) (lh_ rfl) (lh_ hmx) hca hs (lh_ hd) (lh_ hp) (lh_ rfl) (lh_ h)
end Go.Proofs.YtobojnodohjiaaaGreatDoor
