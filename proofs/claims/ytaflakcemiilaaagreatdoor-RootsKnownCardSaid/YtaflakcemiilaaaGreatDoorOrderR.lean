
/- RootsOrder: the law's walk. -/
import Derived.Test.YtaflakcemiilaaaGreatDoorRRot1
import Derived.Test.YtaflakcemiilaaaGreatDoorPL
import Derived.Test.YtaflakcemiilaaaGreatDoorHp2
import Derived.Test.YtaflakcemiilaaaGreatDoorPlanQ
import Derived.Test.YtaflakcemiilaaaGreatDoorSgnR
import Derived.Test.YtaflakcemiilaaaGreatDoorRot1
import Derived.Test.YtaflakcemiilaaaGreatDoorEarly
set_option maxRecDepth 100000
set_option maxHeartbeats 16000000
set_option linter.unusedVariables false
set_option linter.unusedSimpArgs false
namespace Go.Proofs.YtaflakcemiilaaaGreatDoor
open Go.RowKit
attribute [local go_sem ↓] Go.wp_at_zero Go.wp_at_succ
attribute [local go_sem ↓] qd6 qa7 qf4 qk3 qe7
attribute [local go_sem] Instr.field asAgg
theorem qI1 {a:Rat} (h:sgQ a=0):a=0:=by
 rcases qg1 a with ⟨_,e⟩|⟨c,_⟩|⟨_,e⟩
 ·rw [e] at h;exact absurd h (by decide)
 ·exact c
 ·rw [e] at h;exact absurd h (by decide)
def ordv (a b s:Rat):Int:=if s - (a+b)<0 then 1 else sgQ ((4:Rat)*(a*b) - (s - (a+b))*(s - (a+b)))
theorem qo4 (a b s:Rat) (v:Value) (n:Nat) (f:Nat→Rat) (c:Int) (w:World) (HFS:Hid (Fs w v n f)) (hn:n≤1000000) (HSZ:Hid (∀ i,i<n→sz (f i)≤1000)) (HSUM:Hid (qsum f n=s)) (hss:sz s≤1000000) (hsa:sz a≤1000000) (hsb:sz b≤1000000) (ha:0≤a) (hb:0≤b) (hs:0≤s) (hc:ordv a b s=c) :
  Calls Tryz.prog 34 #[(Value.agg #[.int .u64 (lo a.num.natAbs),.string (bg a.num.natAbs),.bool (a.num<0),.int .u64 (lo (a.den - 1)),.string (bg (a.den - 1))]),(Value.agg #[.int .u64 (lo b.num.natAbs),.string (bg b.num.natAbs),.bool (b.num<0),.int .u64 (lo (b.den - 1)),.string (bg (b.den - 1))]),v] w fun e w'=>e=.returned (.tuple #[.int .i64 c,.int .i64 0])∧Below w.heap.size w w':=by
 unfold ordv at hc
 by_cases h:s - (a+b)<0
 ·rw [if_pos h] at hc
  subst hc
  exact qJ1 a b s v n f _ w HFS hn HSZ HSUM hss hsa hsb (lh_ ha) (lh_ hb) (lh_ hs) (lh_ rfl) (lh_ h)
 ·rw [if_neg h] at hc
  exact qI_ a b s v n f _ c w HFS hn HSZ HSUM hss hsa hsb (lh_ ha) (lh_ hb) (lh_ hs) (lh_ rfl) (lh_ (by grind)) (lh_ hc)
theorem xl7 {a b s l1 l2 h:Rat} (a0:0≤a) (b0:0≤b) (n1:0≤l1) (n2:0≤l2) (n3:0≤h) (h1:l1*l1≤a) (h2:l2*l2≤b) (h3:s≤h*h) (hc:ordv a b s = -1):l1+l2<h:=by
 unfold ordv at hc
 by_cases hl:s - (a+b)<0
 ·rw [if_pos hl] at hc;exact absurd hc (by decide)
 ·rw [if_neg hl] at hc
  obtain ⟨l,hle⟩:∃ l,s - (a+b)=l:=⟨_,rfl⟩
  rw [hle] at hl hc
  have hlt:4*(a*b)<l*l:=by
   rcases qg1 ((4:Rat)*(a*b) - l*l) with ⟨c,_⟩|⟨_,e⟩|⟨_,e⟩
   ·grind
   ·rw [e] at hc;exact absurd hc (by decide)
   ·rw [e] at hc;exact absurd hc (by decide)
  have e1:0≤l:=by grind
  have e2:0≤l1*l2:=Rat.mul_nonneg n1 n2
  have e3:l1*l1*(l2*l2)≤a*b:=Rat.le_trans (Rat.mul_le_mul_of_nonneg_right h1 (qb7 _)) (Rat.mul_le_mul_of_nonneg_left h2 a0)
  have e4:2*(l1*l2)<l:=qH2 (by grind) e1 (by grind)
  exact qH2 (by grind) n3 (by grind)
theorem xm_ {a b s l1 l2 h:Rat} (a0:0≤a) (b0:0≤b) (n1:0≤l1) (n2:0≤l2) (n3:0≤h) (h1:l1*l1≤a) (h2:l2*l2≤b) (h3:s≤h*h) (hc:ordv a b s=0):l1+l2≤h:=by
 unfold ordv at hc
 by_cases hl:s - (a+b)<0
 ·rw [if_pos hl] at hc;exact absurd hc (by decide)
 ·rw [if_neg hl] at hc
  have:=qI1 hc
  exact xx8 n1 n2 n3 h1 h2 h3 rfl hl (by grind)
theorem qT2 {a b s h1 h2 l:Rat} (a0:0≤a) (b0:0≤b) (n1:0≤h1) (n2:0≤h2) (n3:0≤l) (e1:a≤h1*h1) (e2:b≤h2*h2) (e3:l*l≤s) (hc:0≤ordv a b s):l≤h1+h2:=by
 refine xz4 a0 b0 n1 n2 n3 e1 e2 e3 rfl ?_
 unfold ordv at hc
 by_cases hl:s - (a+b)<0
 ·exact .inl hl
 ·rw [if_neg hl] at hc
  right
  rcases qg1 ((4:Rat)*(a*b) - (s - (a+b))*(s - (a+b))) with ⟨_,e⟩|⟨c,_⟩|⟨c,_⟩
  ·rw [e] at hc;exact absurd hc (by decide)
  ·grind
  ·grind
theorem qA5 {a b:Rat} (a0:0≤a) (b0:0≤b):0≤ordv a b (a+b)∧(ordv a b (a+b)=0 ↔ a=0∨b=0):=by
 have e:ordv a b (a+b)=sgQ (a*b):=by
  unfold ordv
  have h0:a+b - (a+b)=0:=by grind
  rw [h0,if_neg (by decide +kernel)]
  have h1:(4:Rat)*(a*b) - 0*0=4*(a*b):=by grind
  rw [h1]
  rcases qg1 (a*b) with ⟨c,e⟩|⟨c,e⟩|⟨c,e⟩
  ·rw [e];exact qf5 (by grind)
  ·rw [e];rw [c];decide +kernel
  ·rw [e];exact qh9 (by grind)
 rw [e]
 have h:=Rat.mul_nonneg a0 b0
 constructor
 ·exact sgQ_nn0 h
 ·constructor
  ·intro hz
   have hz:=qI1 hz
   rcases (show a=0∨0<a by grind) with c|c
   ·exact .inl c
   ·rcases (show b=0∨0<b by grind) with d|d
    ·exact .inr d
    ·have:=Rat.mul_pos c d;grind
  ·rintro (c|c) <;> rw [c]
   ·rw [Rat.zero_mul];rfl
   ·rw [Rat.mul_zero];rfl
theorem xo4 {a b s:Rat} (a0:0≤a) (b0:0≤b) (s0:0≤s):ordv (a*a) (b*b) (s*s)=sgQ (a+b - s):=by
 obtain ⟨h1,h2⟩:=xu8 a0 b0 s0 rfl
 unfold ordv
 by_cases h:s*s - (a*a+b*b)<0
 ·rw [if_pos h,qh9 (h1 h)]
 ·rw [if_neg h];exact h2 h
theorem xo0 {x y:Rat} (h:y≤x):¬ sgQ (x - y)<0:=by
 have:=sgQ_nn0 (show 0≤x - y by grind);omega
theorem qK_ (n1 d1 n2 d2:Int) (v:Value) (n:Nat) (N D:Nat→Int) (x0 y0 a b su:Rat) (f:Nat→Rat) (w:World) (h1_1:-9223372036854775808≤n1) (h2_1:n1≤9223372036854775807) (h3_1:0≤d1) (h4_1:d1≤4294967295) (h1_2:-9223372036854775808≤n2) (h2_2:n2≤9223372036854775807) (h3_2:0≤d2) (h4_2:d2≤4294967295) (HQ:Hid (Qs w v n N D)) (HQB:Hid (Qb n N D)) (hn6:n≤6) (HX0:Hid (qv n1 d1=x0)) (HY0:Hid (qv n2 d2=y0)) (HX1:Hid (qabs x0=a)) (HY1:Hid (qabs y0=b)) (HA0:Hid (0≤a)) (HB0:Hid (0≤b)) (hsa:sz a≤4) (hsb:sz b≤4) (Hf:Hid (∀ i,qv (N i) (D i)=f i)) (HSU:Hid (qsum f n=su)) (hssu:sz su≤101) (HSa:Hid (∀ i,i<n→sz (f i)≤1000)) (HT:Hid (Tab w)) :
  Calls Tryz.prog 8 #[.agg #[.int .i64 n1,.int .u32 d1],.agg #[.int .i64 n2,.int .u32 d2],v] w fun e w'=>e=.returned (.bool true)∧Below w.heap.size w w':=by
 obtain ⟨ao,c,rfl⟩:=HQ.out.slice
 obtain ⟨i0,hi,hz0,hz1,hz2⟩:=info_parts qr2
 have hw1:IntKind.i64.wrap 1=1:=by decide
 have hw2:IntKind.i64.wrap 2=2:=by decide
 have hszr:sz (0:Rat)≤1:=qd5 (qa4.2 (by decide +kernel)) (qa4.2 (by decide +kernel))
 go_enter Tryz.func8,Tryz.ntmps8
 have I:=lh_ (hp0 w)
 refine kS fun K O=>?_
 refine wp_region_lit ?_
 go_wp2
 refine kF_ O (((I.out).aL (w.heap.size)).aL (w.heap.size+1)) fun Wx0 J=>?_;clear O K
 clear I;have I:=J;clear J
 generalize w.heap.size+1=gx1 at *
 refine wp_seq ?_
 have hn6:¬ 6<(n:Int):=by omega
 refine ks3_ fun K O T Y=>?_
 refine tk3_ ?_
 refine nlS Y I fun vw1 J=>?_
 clear Y T I
 go_wp2
 refine kO O ?_;clear O K
 have I:=J;clear J
 clear hn6
 refine wp_cond_false (by rfl) ?_
 refine wp_skip ?_
 show Code.wp _ _ _ _ _
 have HZ1:Hid (qv n1 d1=x0):=lh_ (HX0.out)
 have su1:sz x0≤4:=by have e:=HZ1.out;first|omega|(rw [← e];exact qh0 n1 d1 om om om om)
 have HZ2:Hid (qabs x0=a):=lh_ (HX1.out)
 have su2:sz a≤4:=by have e:=HZ2.out;first|omega|(rw [← e];rw [qc8];omega)
 have HZ3:Hid (qv n2 d2=y0):=lh_ (HY0.out)
 have su3:sz y0≤4:=by have e:=HZ3.out;first|omega|(rw [← e];exact qh0 n2 d2 om om om om)
 have HZ4:Hid (qabs y0=b):=lh_ (HY1.out)
 have su4:sz b≤4:=by have e:=HZ4.out;first|omega|(rw [← e];rw [qc8];omega)
 have lx0:=c0_ I
 have lx1:=c1_ I
 refine kS fun K O=>?_
 refine qa2 8 [6,7] [] (fun i=>if i=6 then 7 else 8) (fun i=>if i=6 then .cells #[.int .u64 0,.string ⟨#[]⟩,.bool false,.int .u64 0,.string ⟨#[]⟩] 36 else .cells #[.int .u64 0,.string ⟨#[]⟩,.bool false,.int .u64 0,.string ⟨#[]⟩] 36) [(true,0),(true,3),(true,1),(true,2),(true,4),(true,5)] (by kernel_rfl) (by kernel_rfl) (by intro i hi;simp only [List.mem_cons,List.not_mem_nil,or_false] at hi;rcases hi with rfl|rfl <;> exact ⟨_,rfl,rfl,rfl,by simp,fun ρ w=>by kernel_rfl⟩) (fun i hi=>by cases hi) (fun _ _ _ _ _ h=>h) (fun T Y=>?_)
 refine tk2_ ?_
 refine ck Tryz.call24 (fun w' hw=>qf9 n1 d1 x0 _ HZ1.out om om om om) ?_
 refine ck Tryz.call31 (fun w' hw=>qd0 x0 a _ HZ2.out) ?_
 refine ck Tryz.call24 (fun w' hw=>qf9 n2 d2 y0 _ HZ3.out om om om om) ?_
 refine ck Tryz.call31 (fun w' hw=>qd0 y0 b _ HZ4.out) ?_
 refine qa1 (Y.out _ _ ?_)
 intro G vw2 hg hf
 simp only [puts,Act.put,lA,lB,lC,lD,lE,↓reduceIte,Nat.reduceEqDiff]
 have J:=lh_ (I.out.fr hg hf (zs:=[(#[.int .u64 0,.string ⟨#[]⟩,.bool false,.int .u64 0,.string ⟨#[]⟩],36),(#[.int .u64 0,.string ⟨#[]⟩,.bool false,.int .u64 0,.string ⟨#[]⟩],36)]) rfl (by decide) (by decide))
 simp only [zq1_,zq2_,zq3_,zq4_,lF,lG] at J
 clear Y T I hg hf lx0 lx1
 generalize G 6=gx3 at *
 generalize G 7=gx4 at *
 have lx3:=c2_ J;have fx3:=f2_ J
 have lx4:=c3_ J;have fx4:=f3_ J
 have r0:=Gr.refl vw2
 obtain ⟨d3_4,d4_3⟩:=J.out.ne 2 3 rfl rfl (by decide)
 go_wp2
 refine kO O ?_;clear O K
 clear r0 lx3 fx3 lx4 fx4 d3_4 d4_3
 refine fH (((((((((J.out).put2 2 0 rfl).put2 2 2 rfl).put 2 4 _ rfl).put2 3 0 rfl).put2 3 2 rfl).put 3 4 _ rfl).er 1).er 0) fun Wx3 I=>?_
 clear J
 refine kS fun K O=>?_
 refine wp_region_lit ?_
 go_wp2
 refine kF_ O (I.out) fun Wx4 J=>?_;clear O K
 clear I;have I:=J;clear J
 refine wp_seq ?_
 refine kS fun K O=>?_
 refine wp_region_lit ?_
 go_wp2
 refine kF_ O (I.out) fun Wx5 J=>?_;clear O K
 clear I;have I:=J;clear J
 refine wp_block ?_
 go_loopg [9,10] n (fun kk u iv wr=>∃ k:Nat,iv=.int .i64 (k:Int)∧k+kk=n∧(k=0→u=.slice none 0 0)∧Hid (HP w wr [Sum.inl (gx3,36,#[.int .u64 (lo a.num.natAbs),.string (bg a.num.natAbs),.bool (a.num<0),.int .u64 (lo (a.den - 1)),.string (bg (a.den - 1))]),Sum.inl (gx4,36,#[.int .u64 (lo b.num.natAbs),.string (bg b.num.natAbs),.bool (b.num<0),.int .u64 (lo (b.den - 1)),.string (bg (b.den - 1))])])∧Hid (wr.ownsRow w.heap.size 36 5 u k (fcs f k))∧Hid (Apart [Sum.inl (gx3,36,#[.int .u64 (lo a.num.natAbs),.string (bg a.num.natAbs),.bool (a.num<0),.int .u64 (lo (a.den - 1)),.string (bg (a.den - 1))]),Sum.inl (gx4,36,#[.int .u64 (lo b.num.natAbs),.string (bg b.num.natAbs),.bool (b.num<0),.int .u64 (lo (b.den - 1)),.string (bg (b.den - 1))])] u))
 case atStart=>exact ⟨0,rfl,by omega,fun _=>rfl,I,lh_ (World.ownsRow_nil _ _ _ _),lh_ (fun i x hx e=>by cases e)⟩
 case round =>
  rename_i J_ K_ hj1_ hj0_
  clear I
  obtain ⟨k,rfl,hkn,hu0,I,HW,HAP⟩:=hrel
  rcases gk with _|kk
  ·obtain rfl:n=k:=by omega
   have HFS:Hid (Fs wr u9 n f):=lh_ (by
    rcases Nat.eq_zero_or_pos n with h|h
    ·rw [hu0 h,h];exact fs0 _ _
    ·obtain ⟨gR,cur,h1,h2⟩:=xh0 I.out HW.out HAP.out h (by decide)
     exact qW5 h2 ((h1.bx 2 rfl).gr (Gr.refl _)))
   have BX3:=lh_ (I.out.bx 0 rfl)
   have BX4:=lh_ (I.out.bx 1 rfl)
   have HBW:=lh_ I.out.1
   replace HT:=lh_ (HT.out.gr HBW.out)
   clear I HW HAP hu0 hkn
   have I:=lh_ (hp0 wr)
   refine wp_seq ?_
   have hlt9:¬ (n:Int)<(n:Int):=by omega
   refine ks4_ fun K O T Y=>?_
   iterate 4 refine tk ?_
   refine nlS Y I fun vw3 J=>?_
   clear Y T I
   go_wp2
   refine kO O ?_;clear O K
   have I:=J;clear J
   clear hlt9
   refine wp_cond_false (by rfl) ?_
   refine wp_exit ?_
   show Code.wp _ _ _ _ _
   by_cases hneg:su<0
   ·have HNG:=lh_ hneg
    clear hneg
    have HB:=HPb I
    refine ks2_ fun K O T Y=>?_
    refine tk ?_
    refine ck Tryz.call40 (fun w' hw=>qi2 n f _ su _ (HFS.out.gr (Gr.trans HB.out hw)) om HSa.out HSU.out) ?_
    refine nlS Y I fun vw4 J=>?_
    clear Y T I HB
    go_wp2
    refine kF_ O ((J.out).aL (vw4.heap.size)) fun Wx9 I=>?_;clear O K
    clear J
    generalize vw4.heap.size=gx5 at *
    have HB:=HPb I
    have lx3:=(BX3.out.gr I.out.1).cells
    have lx4:=(BX4.out.gr I.out.1).cells
    refine ks9_ fun K O T Y=>?_
    refine tk3_ ?_
    refine ck Tryz.call34 (fun w' hw=>qo9 a b su _ n f _ (lh_ (HFS.out.gr (Gr.trans HB.out hw))) om HSa HSU om om om HA0 HB0 HNG) ?_
    iterate 5 refine tk ?_
    refine nlS Y I fun vw5 J=>?_
    clear Y T I lx3 lx4 HB
    go_wp2
    refine kO O ?_;clear O K
    have I:=J;clear J
    refine wp_seq ?_
    have lx5:=c0_ I
    refine ks3_ fun K O T Y=>?_
    refine tk ?_
    refine ck Tryz.call35 (fun w' hw=>qa5 su (-1) _ (by have e9:(su)<(0:Rat):=(by first|exact ok|exact HNG.out|exact HA0.out|exact HB0.out);exact qf5 e9)) ?_
    refine tk ?_
    refine nlS Y I fun vw6 J=>?_
    clear Y T I lx5
    go_wp2
    refine kO O ?_;clear O K
    have I:=J;clear J
    refine wp_cond_true (by rfl) ?_
    have HB:=HPb I
    refine xv7 fun K O T Y=>?_
    iterate 7 refine tk ?_
    refine ck Tryz.call22 (fun w' hw=>qa6 _ (lh_ (HT.out.gr (Gr.trans HB.out hw)))) ?_
    refine tk2_ ?_
    refine nlS Y I fun vw7 J=>?_
    clear Y T I HB
    go_wp2
    refine kO O ?_;clear O K
    have I:=J;clear J
    refine wp_ret ?_
    try simp only [Exit.then,Exit.inBlock]
    exact bodyPost_ret (v:=.bool true) (by simp [results,Tryz.results8,go_sem]) rfl ⟨rfl,HBW.out.trans (I.out.1.mono HBW.out.size)⟩
   ·have HS0:Hid (0≤su):=lh_ (Rat.not_lt.1 hneg)
    clear hneg
    obtain ⟨c,HOV⟩:∃ c,Hid (ordv a b su=c):=⟨_,lh_ rfl⟩
    obtain ⟨la,HLA⟩:∃ z,Hid (rlo a 80=z):=⟨_,lh_ rfl⟩
    obtain ⟨ha,HHA⟩:∃ z,Hid (rhi a 80=z):=⟨_,lh_ rfl⟩
    obtain ⟨lb,HLB⟩:∃ z,Hid (rlo b 80=z):=⟨_,lh_ rfl⟩
    obtain ⟨hb,HHB⟩:∃ z,Hid (rhi b 80=z):=⟨_,lh_ rfl⟩
    obtain ⟨ls,HLS⟩:∃ z,Hid (rlo su 80=z):=⟨_,lh_ rfl⟩
    obtain ⟨hs,HHS⟩:∃ z,Hid (rhi su 80=z):=⟨_,lh_ rfl⟩
    obtain ⟨lw,HLW⟩:∃ z,Hid (la+lb=z):=⟨_,lh_ rfl⟩
    obtain ⟨hg,HHG⟩:∃ z,Hid (ha+hb=z):=⟨_,lh_ rfl⟩
    obtain ⟨d,HD⟩:∃ z,Hid (ordv a b (a+b)=z):=⟨_,lh_ rfl⟩
    obtain ⟨gg,HGG⟩:∃ z,Hid (sgQ (a+b - su)=z):=⟨_,lh_ rfl⟩
    have hd0:¬ d<0:=by rw [← HD.out];have:=(qA5 HA0.out HB0.out).1;omega
    have HDZ:Hid (d=0 ↔ a=0∨b=0):=lh_ (by rw [← HD.out];exact (qA5 HA0.out HB0.out).2)
    have HSQ:Hid (ordv (a*a) (b*b) (su*su)=gg):=lh_ (by rw [← HGG.out];exact xo4 HA0.out HB0.out HS0.out)
    have nla:0≤la:=by rw [← HLA.out];exact qk8 _ _
    have nlb:0≤lb:=by rw [← HLB.out];exact qk8 _ _
    have nha:0≤ha:=by rw [← HHA.out];exact qD2 _ _
    have nhb:0≤hb:=by rw [← HHB.out];exact qD2 _ _
    have nls:0≤ls:=by rw [← HLS.out];exact qk8 _ _
    have nhs:0≤hs:=by rw [← HHS.out];exact qD2 _ _
    have qla:la*la≤a:=by rw [← HLA.out];exact qm1 HA0.out _
    have qlb:lb*lb≤b:=by rw [← HLB.out];exact qm1 HB0.out _
    have qls:ls*ls≤su:=by rw [← HLS.out];exact qm1 HS0.out _
    have qha:a≤ha*ha:=by rw [← HHA.out];exact qC5 HA0.out _
    have qhb:b≤hb*hb:=by rw [← HHB.out];exact qC5 HB0.out _
    have qhs:su≤hs*hs:=by rw [← HHS.out];exact qC5 HS0.out _
    have hcc:c = -1∨c=0∨c=1:=by
     rw [← HOV.out];unfold ordv;split
     ·exact .inr (.inr rfl)
     ·rcases qg1 ((4:Rat)*(a*b) - (su - (a+b))*(su - (a+b))) with ⟨_,e⟩|⟨_,e⟩|⟨_,e⟩ <;> rw [e] <;> simp
    rcases hcc with rfl|rfl|rfl
    ·have HLT:Hid (lw - hs<0):=lh_ (by have:=xl7 HA0.out HB0.out nla nlb nhs qla qlb qhs HOV.out;rw [← HLW.out];grind)
     clear nla nlb nha nhb nls nhs qla qlb qls qha qhb qhs
     have HB:=HPb I
     refine ks2_ fun K O T Y=>?_
     refine tk ?_
     refine ck Tryz.call40 (fun w' hw=>qi2 n f _ su _ (HFS.out.gr (Gr.trans HB.out hw)) om HSa.out HSU.out) ?_
     refine nlS Y I fun vw4 J=>?_
     clear Y T I HB
     go_wp2
     refine kF_ O ((J.out).aL (vw4.heap.size)) fun Wx9 I=>?_;clear O K
     clear J
     generalize vw4.heap.size=gx5 at *
     have HB:=HPb I
     have lx3:=(BX3.out.gr I.out.1).cells
     have lx4:=(BX4.out.gr I.out.1).cells
     refine ks9_ fun K O T Y=>?_
     refine tk3_ ?_
     refine ck Tryz.call34 (fun w' hw=>qo4 a b su _ n f (-1) _ (lh_ (HFS.out.gr (Gr.trans HB.out hw))) om HSa HSU om om om (HA0.out) (HB0.out) (HS0.out) (HOV.out)) ?_
     iterate 5 refine tk ?_
     refine nlS Y I fun vw5 J=>?_
     clear Y T I lx3 lx4 HB
     go_wp2
     refine kO O ?_;clear O K
     have I:=J;clear J
     refine wp_seq ?_
     obtain ⟨t5,HT5⟩:∃ z,Hid (sgQ su=z):=⟨_,lh_ rfl⟩
     have ht5:0≤t5:=by rw [← HT5.out];exact sgQ_nn0 HS0.out
     have hd1:¬ (t5<0):=by first|exact ok|exact HS0.out|exact HLT.out|exact HLW.out|exact HHG.out|exact Rat.zero_add _|exact HA0.out|exact HB0.out
     have lx5:=c0_ I
     refine ks3_ fun K O T Y=>?_
     refine tk ?_
     refine ck Tryz.call35 (fun w' hw=>qa5 su t5 _ HT5.out) ?_
     refine tk ?_
     refine nlS Y I fun vw6 J=>?_
     clear Y T I lx5
     go_wp2
     refine kO O ?_;clear O K
     have I:=J;clear J
     clear ht5 hd1
     refine wp_cond_false (by rfl) ?_
     refine wp_skip ?_
     show Code.wp _ _ _ _ _
     refine ks2_ fun K O T Y=>?_
     refine tk2_ ?_
     refine nlS Y I fun vw7 J=>?_
     clear Y T I
     go_wp2
     refine kF_ O (((J.out).aL (vw7.heap.size)).aL (vw7.heap.size+1)) fun Wx13 I=>?_;clear O K
     clear J
     generalize vw7.heap.size+1=gx7 at *
     generalize vw7.heap.size=gx6 at *
     refine wp_seq ?_
     have lx3:=(BX3.out.gr I.out.1).cells
     have lx4:=(BX4.out.gr I.out.1).cells
     refine kS fun K O=>?_
     have HG0:Hid (Gr Wx13 Wx13):=lh_ (Gr.refl _)
     refine qz1 fun T Y=>?_
     refine tk2_ ?_
     refine qe2 (cs:=#[.int .u64 (lo a.num.natAbs),.string (bg a.num.natAbs),.bool (a.num<0),.int .u64 (lo (a.den - 1)),.string (bg (a.den - 1)),.int .u64 (lo b.num.natAbs),.string (bg b.num.natAbs),.bool (b.num<0),.int .u64 (lo (b.den - 1)),.string (bg (b.den - 1))]) (E:=36) (n:=2) rfl (by rfl) (fun w' hw=>?_) (fun gx8 vv8 hg0 yx8 bx8=>?_)
     ·go_simp
     have YX8:=lh_ (Nat.le_trans HG0.out.size yx8)
     clear yx8
     replace HG0:=lh_ (HG0.out.trans hg0)
     have HGS:=lh_ hg0;clear hg0
     clear HGS
     have BX8:=lh_ bx8;clear bx8
     clear lx3;have lx3:=fun w' (h:Gr _ w')=>(BX3.out.gr I.out.1).cells w' (HG0.out.trans h)
     clear lx4;have lx4:=fun w' (h:Gr _ w')=>(BX4.out.gr I.out.1).cells w' (HG0.out.trans h)
     simp only [Act.put,lA,lB,lC]
     refine tk2_ ?_
     refine qa1 (Y.out _ _ ?_)
     intro vw8 hg
     simp only [puts,Act.put,lA,lB,lC,lD,lE,↓reduceIte,Nat.reduceEqDiff]
     have J:=lh_ (I.out.grS (HG0.out.trans hg) YX8.out (BX8.out.gr hg) (by decide))
     simp only [zq1_,zq2_,zq3_,zq4_,lF,lG] at J
     clear Y T I hg HG0 BX8 lx3 lx4
     clear YX8
     go_wp2
     refine kO O ?_;clear O K
     have I:=J;clear J
     refine wp_block ?_
     refine wp_loop_rounds 4 ?_
     rw [rounds_succ]
     refine ks1_ fun K O T Y=>?_
     refine tk ?_
     refine nlS Y I fun vw9 J=>?_
     clear Y T I
     go_wp2
     refine kO O ?_;clear O K
     have I:=J;clear J
     refine wp_seq ?_
     refine wp_cond_true (by rfl) ?_
     refine wp_skip ?_
     show Code.wp _ _ _ _ _
     refine wp_seq ?_
     refine wp_block ?_
     have lx8:=c3_ I
     refine ks2_ fun K O T Y=>?_
     refine tk2_ ?_
     refine nlS Y I fun vw10 J=>?_
     clear Y T I lx8
     go_wp2
     refine kF_ O ((J.out).aL (vw10.heap.size)) fun Wx16 I=>?_;clear O K
     clear J
     generalize vw10.heap.size=gx9 at *
     have HZ6:Hid (rlo a 80=la):=lh_ (HLA.out)
     have su6:sz la≤14:=by have e:=HZ6.out;first|omega|(rw [← e];exact Nat.le_trans (qd2 om om) om)
     have lx9:=c4_ I
     refine ks5_ fun K O T Y=>?_
     refine tk ?_
     refine ck Tryz.call23 (fun w' hw=>qb1 a la 80 _ (lh_ (by first|exact ok|exact HS0.out|exact HLT.out|exact HLW.out|exact HHG.out|exact Rat.zero_add _|exact HA0.out|exact HB0.out)) (lh_ HZ6.out) om om) ?_
     refine tk3_ ?_
     refine nlS Y I fun vw11 J=>?_
     clear Y T I lx9
     go_wp2
     refine kF_ O ((J.out).aL (vw11.heap.size)) fun Wx17 I=>?_;clear O K
     clear J
     generalize vw11.heap.size=gx10 at *
     have HZ7:Hid (rhi a 80=ha):=lh_ (HHA.out)
     have su7:sz ha≤14:=by have e:=HZ7.out;first|omega|(rw [← e];exact Nat.le_trans (qd8 om om) om)
     have lx9:=c4_ I
     refine ks5_ fun K O T Y=>?_
     refine tk ?_
     refine ck Tryz.call25 (fun w' hw=>qb6 a ha 80 _ (lh_ (by first|exact ok|exact HS0.out|exact HLT.out|exact HLW.out|exact HHG.out|exact Rat.zero_add _|exact HA0.out|exact HB0.out)) (lh_ HZ7.out) om om) ?_
     refine tk3_ ?_
     refine nlS Y I fun vw12 J=>?_
     clear Y T I lx9
     go_wp2
     refine kF_ O ((J.out).aL (vw12.heap.size)) fun Wx18 I=>?_;clear O K
     clear J
     generalize vw12.heap.size=gx11 at *
     have HZ8:Hid ((0:Rat)+(la)=la):=lh_ (by first|exact ok|exact HS0.out|exact HLT.out|exact HLW.out|exact HHG.out|exact Rat.zero_add _|exact HA0.out|exact HB0.out)
     have su8:sz la≤16:=by have e:=HZ8.out;first|omega|(rw [← e];have:=qe0 (0:Rat) la;omega)
     have lx6:=c1_ I
     have lx10:=c5_ I
     refine ks3_ fun K O T Y=>?_
     refine tk2_ ?_
     refine ck Tryz.call30 (fun w' hw=>qc5 (0:Rat) la la _ HZ8.out om om) ?_
     refine nlS Y I fun vw13 J=>?_
     clear Y T I lx6 lx10
     have lx6:=c1_ J;have fx6:=f1_ J
     have r0:=Gr.refl vw13
     go_wp2
     refine kO O ?_;clear O K
     clear r0 lx6 fx6
     refine fH ((((J.out).put2 1 0 rfl).put2 1 2 rfl).put 1 4 _ rfl) fun Wx19 I=>?_
     clear J
     have HZ9:Hid ((0:Rat)+(ha)=ha):=lh_ (by first|exact ok|exact HS0.out|exact HLT.out|exact HLW.out|exact HHG.out|exact Rat.zero_add _|exact HA0.out|exact HB0.out)
     have su9:sz ha≤16:=by have e:=HZ9.out;first|omega|(rw [← e];have:=qe0 (0:Rat) ha;omega)
     have lx7:=c2_ I
     have lx11:=c6_ I
     refine kL fun K O=>?_
     refine sq3_ fun T Y=>?_
     refine tk2_ ?_
     refine ck Tryz.call30 (fun w' hw=>qc5 (0:Rat) ha ha _ HZ9.out om om) ?_
     refine nlS Y I fun vw14 J=>?_
     clear Y T I lx7 lx11
     have lx7:=c2_ J;have fx7:=f2_ J
     have r0:=Gr.refl vw14
     go_wp2
     refine kO O ?_;clear O K
     clear r0 lx7 fx7
     refine fH ((((J.out).put2 2 0 rfl).put2 2 2 rfl).put 2 4 _ rfl) fun Wx20 I=>?_
     clear J
     refine kL fun K O=>?_
     refine sq2_ fun T Y=>?_
     refine tk2_ ?_
     refine nlS Y I fun vw15 J=>?_
     clear Y T I
     go_wp2
     refine O.out _ _ ?_;clear O K
     show Code.rounds _ _ _ _ _ _
     rw [rounds_succ]
     have I:=J;clear J
     refine ks1_ fun K O T Y=>?_
     refine tk ?_
     refine nlS Y I fun vw16 J=>?_
     clear Y T I
     go_wp2
     refine kO O ?_;clear O K
     have I:=J;clear J
     refine wp_seq ?_
     refine wp_cond_true (by rfl) ?_
     refine wp_skip ?_
     show Code.wp _ _ _ _ _
     refine wp_seq ?_
     refine wp_block ?_
     have lx8:=c3_ I
     refine ks2_ fun K O T Y=>?_
     refine tk2_ ?_
     refine nlS Y I fun vw17 J=>?_
     clear Y T I lx8
     go_wp2
     refine kF_ O (((J.out).aL (vw17.heap.size)).er 4) fun Wx16 I=>?_;clear O K
     clear J
     generalize vw17.heap.size=gx12 at *
     have HZ10:Hid (rlo b 80=lb):=lh_ (HLB.out)
     have su10:sz lb≤14:=by have e:=HZ10.out;first|omega|(rw [← e];exact Nat.le_trans (qd2 om om) om)
     have lx12:=c6_ I
     refine ks5_ fun K O T Y=>?_
     refine tk ?_
     refine ck Tryz.call23 (fun w' hw=>qb1 b lb 80 _ (lh_ (by first|exact ok|exact HS0.out|exact HLT.out|exact HLW.out|exact HHG.out|exact Rat.zero_add _|exact HA0.out|exact HB0.out)) (lh_ HZ10.out) om om) ?_
     refine tk3_ ?_
     refine nlS Y I fun vw18 J=>?_
     clear Y T I lx12
     go_wp2
     refine kF_ O (((J.out).aL (vw18.heap.size)).er 4) fun Wx17 I=>?_;clear O K
     clear J
     generalize vw18.heap.size=gx13 at *
     have HB:=HPb I
     have HZ11:Hid (rhi b 80=hb):=lh_ (HHB.out)
     have su11:sz hb≤14:=by have e:=HZ11.out;first|omega|(rw [← e];exact Nat.le_trans (qd8 om om) om)
     have lx12:=c5_ I
     refine ks5_ fun K O T Y=>?_
     refine tk ?_
     refine ck Tryz.call25 (fun w' hw=>qb6 b hb 80 _ (lh_ (by first|exact ok|exact HS0.out|exact HLT.out|exact HLW.out|exact HHG.out|exact Rat.zero_add _|exact HA0.out|exact HB0.out)) (lh_ HZ11.out) om om) ?_
     refine tk3_ ?_
     refine nlS Y I fun vw19 J=>?_
     clear Y T I lx12 HB
     go_wp2
     refine kF_ O (((J.out).aL (vw19.heap.size)).er 4) fun Wx18 I=>?_;clear O K
     clear J
     generalize vw19.heap.size=gx14 at *
     have HZ12:Hid (la+(lb)=lw):=lh_ (by first|exact ok|exact HS0.out|exact HLT.out|exact HLW.out|exact HHG.out|exact Rat.zero_add _|exact HA0.out|exact HB0.out)
     have su12:sz lw≤31:=by have e:=HZ12.out;first|omega|(rw [← e];have:=qe0 la lb;omega)
     have lx6:=c1_ I
     have lx13:=c5_ I
     refine ks3_ fun K O T Y=>?_
     refine tk2_ ?_
     refine ck Tryz.call30 (fun w' hw=>qc5 la lb lw _ HZ12.out om om) ?_
     refine nlS Y I fun vw20 J=>?_
     clear Y T I lx6 lx13
     have lx6:=c1_ J;have fx6:=f1_ J
     have r0:=Gr.refl vw20
     go_wp2
     refine kO O ?_;clear O K
     clear r0 lx6 fx6
     refine fH ((((J.out).put2 1 0 rfl).put2 1 2 rfl).put 1 4 _ rfl) fun Wx19 I=>?_
     clear J
     have HZ13:Hid (ha+(hb)=hg):=lh_ (by first|exact ok|exact HS0.out|exact HLT.out|exact HLW.out|exact HHG.out|exact Rat.zero_add _|exact HA0.out|exact HB0.out)
     have su13:sz hg≤31:=by have e:=HZ13.out;first|omega|(rw [← e];have:=qe0 ha hb;omega)
     have lx7:=c2_ I
     have lx14:=c6_ I
     refine kL fun K O=>?_
     refine sq3_ fun T Y=>?_
     refine tk2_ ?_
     refine ck Tryz.call30 (fun w' hw=>qc5 ha hb hg _ HZ13.out om om) ?_
     refine nlS Y I fun vw21 J=>?_
     clear Y T I lx7 lx14
     have lx7:=c2_ J;have fx7:=f2_ J
     have r0:=Gr.refl vw21
     go_wp2
     refine kO O ?_;clear O K
     clear r0 lx7 fx7
     refine fH ((((J.out).put2 2 0 rfl).put2 2 2 rfl).put 2 4 _ rfl) fun Wx20 I=>?_
     clear J
     refine kL fun K O=>?_
     refine sq2_ fun T Y=>?_
     refine tk2_ ?_
     refine nlS Y I fun vw22 J=>?_
     clear Y T I
     go_wp2
     refine O.out _ _ ?_;clear O K
     show Code.rounds _ _ _ _ _ _
     rw [rounds_succ]
     have I:=J;clear J
     refine ks1_ fun K O T Y=>?_
     refine tk ?_
     refine nlS Y I fun vw23 J=>?_
     clear Y T I
     go_wp2
     refine kO O ?_;clear O K
     have I:=J;clear J
     refine wp_seq ?_
     refine wp_cond_false (by rfl) ?_
     refine wp_exit ?_
     show Code.wp _ _ _ _ _
     have HZ14:Hid (rlo su 80=ls):=lh_ (HLS.out)
     have su14:sz ls≤111:=by have e:=HZ14.out;first|omega|(rw [← e];exact Nat.le_trans (qd2 om om) om)
     have lx5:=c0_ I
     refine ks5_ fun K O T Y=>?_
     refine tk ?_
     refine ck Tryz.call23 (fun w' hw=>qb1 su ls 80 _ (lh_ (by first|exact ok|exact HS0.out|exact HLT.out|exact HLW.out|exact HHG.out|exact Rat.zero_add _|exact HA0.out|exact HB0.out)) (lh_ HZ14.out) om om) ?_
     refine tk3_ ?_
     refine nlS Y I fun vw24 J=>?_
     clear Y T I lx5
     go_wp2
     refine kF_ O ((((((J.out).aL (vw24.heap.size)).er 6).er 5).er 4).er 3) fun Wx22 I=>?_;clear O K
     clear J
     generalize vw24.heap.size=gx15 at *
     have HZ15:Hid (rhi su 80=hs):=lh_ (HHS.out)
     have su15:sz hs≤111:=by have e:=HZ15.out;first|omega|(rw [← e];exact Nat.le_trans (qd8 om om) om)
     have lx5:=c0_ I
     refine ks5_ fun K O T Y=>?_
     refine tk ?_
     refine ck Tryz.call25 (fun w' hw=>qb6 su hs 80 _ (lh_ (by first|exact ok|exact HS0.out|exact HLT.out|exact HLW.out|exact HHG.out|exact Rat.zero_add _|exact HA0.out|exact HB0.out)) (lh_ HZ15.out) om om) ?_
     refine tk3_ ?_
     refine nlS Y I fun vw25 J=>?_
     clear Y T I lx5
     go_wp2
     refine kF_ O ((J.out).aL (vw25.heap.size)) fun Wx23 I=>?_;clear O K
     clear J
     generalize vw25.heap.size=gx16 at *
     refine wp_seq ?_
     have lx6:=c1_ I
     have lx7:=c2_ I
     have lx15:=c3_ I
     have lx16:=c4_ I
     refine xr6 fun K O T Y=>?_
     iterate 8 refine tk ?_
     refine ck Tryz.call38 (fun w' hw=>qa8 lw hs (-1) _ (by have e9:(lw) - hs<(0:Rat):=(by first|exact ok|exact HS0.out|exact HLT.out|exact HLW.out|exact HHG.out|exact Rat.zero_add _|exact HA0.out|exact HB0.out);exact qf5 e9) om om) ?_
     refine tk3_ ?_
     iterate 3 refine sk ?_
     iterate 6 refine tk ?_
     iterate 4 refine sk ?_
     iterate 6 refine tk ?_
     iterate 10 refine sk ?_
     refine tk2_ ?_
     refine nlS Y I fun vw26 J=>?_
     clear Y T I lx6 lx7 lx15 lx16
     go_wp2
     refine kF_ O (((((J.out).er 4).er 3).er 2).er 1) fun Wx24 I=>?_;clear O K
     clear J
     refine wp_cond_false (by rfl) ?_
     refine wp_skip ?_
     show Code.wp _ _ _ _ _
     have lx3:=(BX3.out.gr I.out.1).cells
     have lx4:=(BX4.out.gr I.out.1).cells
     refine kS fun K O=>?_
     have HG0:Hid (Gr Wx24 Wx24):=lh_ (Gr.refl _)
     refine qz4 fun T Y=>?_
     iterate 4 refine tk ?_
     refine qe2 (cs:=#[.int .u64 (lo a.num.natAbs),.string (bg a.num.natAbs),.bool (a.num<0),.int .u64 (lo (a.den - 1)),.string (bg (a.den - 1)),.int .u64 (lo b.num.natAbs),.string (bg b.num.natAbs),.bool (b.num<0),.int .u64 (lo (b.den - 1)),.string (bg (b.den - 1))]) (E:=36) (n:=2) rfl (by rfl) (fun w' hw=>?_) (fun gx17 vv17 hg0 yx17 bx17=>?_)
     ·go_simp
     clear yx17
     replace HG0:=lh_ (HG0.out.trans hg0)
     have HGS:=lh_ hg0;clear hg0
     clear HGS
     have BX17:=lh_ bx17;clear bx17
     clear lx3;have lx3:=fun w' (h:Gr _ w')=>(BX3.out.gr I.out.1).cells w' (HG0.out.trans h)
     clear lx4;have lx4:=fun w' (h:Gr _ w')=>(BX4.out.gr I.out.1).cells w' (HG0.out.trans h)
     simp only [Act.put,lA,lB,lC]
     refine ck Tryz.call34 (fun w' hw=>qo4 a b (a+(b)) _ 2 (rf2_ a b) d _ (lh_ (fs2 BX17.out hw)) om (lh_ (fsz2 om om)) (lh_ (xq8 _ _ _ rfl)) (by have:=qe0 a b;omega) om om (HA0.out) (HB0.out) (Rat.add_nonneg HA0.out HB0.out) (HD.out)) ?_
     iterate 5 refine tk ?_
     refine qa1 (Y.out _ _ ?_)
     intro vw27 hg
     simp only [puts,Act.put,lA,lB,lC,lD,lE,↓reduceIte,Nat.reduceEqDiff]
     have J:=lh_ (I.out.gr (HG0.out.trans hg))
     clear Y T I hg HG0 BX17 lx3 lx4
     go_wp2
     refine kO O ?_;clear O K
     have I:=J;clear J
     obtain ⟨u16,HZ16⟩:∃ z,Hid (a*(a)=z):=⟨_,lh_ rfl⟩
     have su16:sz u16≤8:=by rw [← HZ16.out];have:=qb0 a a;omega
     obtain ⟨u17,HZ17⟩:∃ z,Hid (b*(b)=z):=⟨_,lh_ rfl⟩
     have su17:sz u17≤8:=by rw [← HZ17.out];have:=qb0 b b;omega
     obtain ⟨u18,HZ18⟩:∃ z,Hid (su*(su)=z):=⟨_,lh_ rfl⟩
     have su18:sz u18≤202:=by rw [← HZ18.out];have:=qb0 su su;omega
     have lx5:=c0_ I
     have lx3:=(BX3.out.gr I.out.1).cells
     have lx4:=(BX4.out.gr I.out.1).cells
     refine kS fun K O=>?_
     have HG0:Hid (Gr vw27 vw27):=lh_ (Gr.refl _)
     refine qe4 12 [] [] (fun _=>0) (fun _=>.cells #[] 0) (fun i=>(1,#[.int .u64 (lo u18.num.natAbs),.string (bg u18.num.natAbs),.bool (u18.num<0),.int .u64 (lo (u18.den - 1)),.string (bg (u18.den - 1))],36)) [(0,0),(0,2),(0,4),(0,1),(0,3),(0,5),(1,6),(2,6),(0,7),(0,8),(0,9),(0,10),(0,11)] (by kernel_rfl) (by kernel_rfl) (fun i hi=>by cases hi) (fun i hi=>by cases hi) (fun _ _ _ _ _ h=>h) (fun T Y=>?_)
     iterate 3 (refine qc3 (v:=?_) rfl (by rfl) (fun w' hw=>?_) ?_;rotate_left;go_simp;with_reducible rfl;simp only [Act.put,lA,lB,lC])
     refine qa9 rfl (by rfl) Tryz.call37 (fun w' hw=>qa3 a u16 _ (lh_ HZ16.out) om) (by rfl) ?_
     simp only [Act.put,lA,lB,lC]
     refine qa9 rfl (by rfl) Tryz.call37 (fun w' hw=>qa3 b u17 _ (lh_ HZ17.out) om) (by rfl) ?_
     simp only [Act.put,lA,lB,lC]
     refine qa9 rfl (by rfl) Tryz.call37 (fun w' hw=>qa3 su u18 _ (lh_ HZ18.out) om) (by rfl) ?_
     simp only [Act.put,lA,lB,lC]
     refine qh8 rfl (by rfl) (fun w'=>?_) ?_
     ·go_simp
     refine qg4 rfl (by rfl) (fun gx18 vv18 hg0 yx18 bx18=>?_)
     clear yx18
     replace HG0:=lh_ (HG0.out.trans hg0)
     have HGS:=lh_ hg0;clear hg0
     clear HGS
     have BX18:=lh_ bx18;clear bx18
     clear lx5;have lx5:=fun w' (h:Gr _ w')=>c0_ I w' (HG0.out.trans h)
     clear lx3;have lx3:=fun w' (h:Gr _ w')=>(BX3.out.gr I.out.1).cells w' (HG0.out.trans h)
     clear lx4;have lx4:=fun w' (h:Gr _ w')=>(BX4.out.gr I.out.1).cells w' (HG0.out.trans h)
     simp only [Act.put,lA,lB,lC]
     refine qa9 rfl (by rfl) Tryz.call34 (fun w' hw=>qo4 u16 u17 u18 _ 1 (rf1_ u18) gg _ (lh_ (fs1 BX18.out hw)) om (lh_ (fsz1 om)) (lh_ (qB2 _)) om om om (by simp only [← HZ18.out,← HZ17.out,← HZ16.out];exact qb7 a) (by simp only [← HZ18.out,← HZ17.out,← HZ16.out];exact qb7 b) (by simp only [← HZ18.out,← HZ17.out,← HZ16.out];exact qb7 su) (by simp only [← HZ18.out,← HZ17.out,← HZ16.out];exact HSQ.out)) (by rfl) ?_
     simp only [Act.put,lA,lB,lC]
     iterate 4 (refine qc3 (v:=?_) rfl (by rfl) (fun w' hw=>?_) ?_;rotate_left;go_simp;with_reducible rfl;simp only [Act.put,lA,lB,lC])
     refine qg7 (Y.out _ _ ?_)
     intro G vw28 hg hf
     simp only [puts,Act.put,lA,lB,lC,lD,lE,↓reduceIte,Nat.reduceEqDiff]
     have J:=lh_ (I.out.gr (HG0.out.trans hg))
     clear Y T I hg hf HG0 BX18 lx5 lx3 lx4
     go_wp2
     refine kO O ?_;clear O K
     have I:=J;clear J
     by_cases ha0:a=0
     ·have HAZ:=lh_ ha0
      have HDT:Hid (d=0):=lh_ (HDZ.out.2 (.inl ha0))
      clear ha0
      have HB:=HPb I
      have hd1:0≤d:=by omega
      have hdz:(d == 0)=true:=by have h9:=HDT.out;simp [h9]
      obtain ⟨u19,HZ19⟩:∃ z,Hid (a+(b)=z):=⟨_,lh_ rfl⟩
      have su19:sz u19≤9:=by rw [← HZ19.out];have:=qe0 a b;omega
      have hgg:(gg == gg)=true:=by simp
      have lx5:=c0_ I
      have lx3:=(BX3.out.gr I.out.1).cells
      have lx4:=(BX4.out.gr I.out.1).cells
      refine kS fun K O=>?_
      refine qK6 fun T Y=>?_
      iterate 10 refine tk ?_
      refine ck Tryz.call35 (fun w' hw=>qa5 a (0) _ (by have e9:(a)=(0:Rat):=(by exact HAZ.out);exact qe9 e9)) ?_
      refine tk2_ ?_
      iterate 3 refine sk ?_
      iterate 8 refine tk ?_
      refine ck Tryz.call30 (fun w' hw=>qc5 a b u19 _ HZ19.out om om) ?_
      refine ck Tryz.call38 (fun w' hw=>qa8 u19 su gg _ (by simp only [← HZ19.out,← HZ18.out,← HZ17.out,← HZ16.out];exact HGG.out) om om) ?_
      iterate 7 refine tk ?_
      refine ck Tryz.call22 (fun w' hw=>qa6 _ (lh_ (HT.out.gr (Gr.trans HB.out hw)))) ?_
      refine tk ?_
      refine nlD Y I fun vw29 J=>?_
      clear Y T I lx5 lx3 lx4 HB
      go_wp2
      refine kF_ O ((J.out).er 0) fun Wx28 I=>?_;clear O K
      clear J
      clear hd1 hdz hgg
      refine wp_ret ?_
      try simp only [Exit.then,Exit.inBlock]
      exact bodyPost_ret (v:=.bool true) (by simp [results,Tryz.results8,go_sem]) rfl ⟨rfl,HBW.out.trans (I.out.1.mono HBW.out.size)⟩
     ·obtain ⟨sa,HSA⟩:∃ z,Hid (sgQ a=z):=⟨_,lh_ rfl⟩
      obtain ⟨sb,HSB⟩:∃ z,Hid (sgQ b=z):=⟨_,lh_ rfl⟩
      have hsan:¬ sa=0:=by rw [← HSA.out];exact qp1 ha0
      obtain ⟨bz,HBZ⟩:∃ z,Hid ((sb == 0)=z):=⟨_,lh_ rfl⟩
      have HBD:Hid ((d == 0)=bz):=lh_ (by
       rw [← HBZ.out,← HSB.out]
       have h9:=HDZ.out
       by_cases hb9:b=0
       ·rw [h9.2 (.inr hb9),hb9];rfl
       ·have e1:¬ d=0:=fun e=>by rcases h9.1 e with h|h;exact ha0 h;exact hb9 h
        have e2:=qp1 hb9
        have e3:(d == 0)=false:=by simpa using e1
        have e4:(sgQ b == 0)=false:=by simpa using e2
        rw [e3,e4])
      clear ha0
      have HB:=HPb I
      have hd1:0≤d:=by omega
      have hdz:(d == 0)=bz:=HBD.out
      have hsz:(sa == 0)=false:=by simpa using hsan
      have hsbz:(sb == 0)=bz:=HBZ.out
      have hbb:(bz == bz)=true:=by simp
      obtain ⟨u19,HZ19⟩:∃ z,Hid (a+(b)=z):=⟨_,lh_ rfl⟩
      have su19:sz u19≤9:=by rw [← HZ19.out];have:=qe0 a b;omega
      have hgg:(gg == gg)=true:=by simp
      have lx5:=c0_ I
      have lx3:=(BX3.out.gr I.out.1).cells
      have lx4:=(BX4.out.gr I.out.1).cells
      refine kS fun K O=>?_
      refine qK6 fun T Y=>?_
      iterate 10 refine tk ?_
      refine ck Tryz.call35 (fun w' hw=>qa5 a sa _ (HSA.out)) ?_
      refine tk3_ ?_
      refine ck Tryz.call35 (fun w' hw=>qa5 b sb _ (HSB.out)) ?_
      iterate 9 refine tk ?_
      refine ck Tryz.call30 (fun w' hw=>qc5 a b u19 _ HZ19.out om om) ?_
      refine ck Tryz.call38 (fun w' hw=>qa8 u19 su gg _ (by simp only [← HZ19.out,← HZ18.out,← HZ17.out,← HZ16.out];exact HGG.out) om om) ?_
      iterate 7 refine tk ?_
      refine ck Tryz.call22 (fun w' hw=>qa6 _ (lh_ (HT.out.gr (Gr.trans HB.out hw)))) ?_
      refine tk ?_
      refine nlD Y I fun vw29 J=>?_
      clear Y T I lx5 lx3 lx4 HB
      go_wp2
      refine kF_ O ((J.out).er 0) fun Wx28 I=>?_;clear O K
      clear J
      clear hd1 hdz hsz hsbz hbb hgg
      refine wp_ret ?_
      try simp only [Exit.then,Exit.inBlock]
      exact bodyPost_ret (v:=.bool true) (by simp [results,Tryz.results8,go_sem]) rfl ⟨rfl,HBW.out.trans (I.out.1.mono HBW.out.size)⟩
    ·obtain ⟨c3,HC3⟩:∃ z,Hid (sgQ (lw - hs)=z):=⟨_,lh_ rfl⟩
     obtain ⟨c4,HC4⟩:∃ z,Hid (sgQ (ls - hg)=z):=⟨_,lh_ rfl⟩
     have hc3:¬ 0<c3:=by rw [← HC3.out,← HLW.out];exact qg0 (xm_ HA0.out HB0.out nla nlb nhs qla qlb qhs HOV.out)
     have hc4:¬ 0<c4:=by rw [← HC4.out,← HHG.out];exact qg0 (qT2 HA0.out HB0.out nha nhb nls qha qhb qls (by rw [HOV.out];decide))
     clear nla nlb nha nhb nls nhs qla qlb qls qha qhb qhs
     have HB:=HPb I
     refine ks2_ fun K O T Y=>?_
     refine tk ?_
     refine ck Tryz.call40 (fun w' hw=>qi2 n f _ su _ (HFS.out.gr (Gr.trans HB.out hw)) om HSa.out HSU.out) ?_
     refine nlS Y I fun vw4 J=>?_
     clear Y T I HB
     go_wp2
     refine kF_ O ((J.out).aL (vw4.heap.size)) fun Wx9 I=>?_;clear O K
     clear J
     generalize vw4.heap.size=gx5 at *
     have HB:=HPb I
     have lx3:=(BX3.out.gr I.out.1).cells
     have lx4:=(BX4.out.gr I.out.1).cells
     refine ks9_ fun K O T Y=>?_
     refine tk3_ ?_
     refine ck Tryz.call34 (fun w' hw=>qo4 a b su _ n f (0) _ (lh_ (HFS.out.gr (Gr.trans HB.out hw))) om HSa HSU om om om (HA0.out) (HB0.out) (HS0.out) (HOV.out)) ?_
     iterate 5 refine tk ?_
     refine nlS Y I fun vw5 J=>?_
     clear Y T I lx3 lx4 HB
     go_wp2
     refine kO O ?_;clear O K
     have I:=J;clear J
     refine wp_seq ?_
     obtain ⟨t5,HT5⟩:∃ z,Hid (sgQ su=z):=⟨_,lh_ rfl⟩
     have ht5:0≤t5:=by rw [← HT5.out];exact sgQ_nn0 HS0.out
     have hd1:¬ (t5<0):=by first|exact ok|exact HS0.out|exact HLT.out|exact HLW.out|exact HHG.out|exact Rat.zero_add _|exact HA0.out|exact HB0.out
     have lx5:=c0_ I
     refine ks3_ fun K O T Y=>?_
     refine tk ?_
     refine ck Tryz.call35 (fun w' hw=>qa5 su t5 _ HT5.out) ?_
     refine tk ?_
     refine nlS Y I fun vw6 J=>?_
     clear Y T I lx5
     go_wp2
     refine kO O ?_;clear O K
     have I:=J;clear J
     clear ht5 hd1
     refine wp_cond_false (by rfl) ?_
     refine wp_skip ?_
     show Code.wp _ _ _ _ _
     refine ks2_ fun K O T Y=>?_
     refine tk2_ ?_
     refine nlS Y I fun vw7 J=>?_
     clear Y T I
     go_wp2
     refine kF_ O (((J.out).aL (vw7.heap.size)).aL (vw7.heap.size+1)) fun Wx13 I=>?_;clear O K
     clear J
     generalize vw7.heap.size+1=gx7 at *
     generalize vw7.heap.size=gx6 at *
     refine wp_seq ?_
     have lx3:=(BX3.out.gr I.out.1).cells
     have lx4:=(BX4.out.gr I.out.1).cells
     refine kS fun K O=>?_
     have HG0:Hid (Gr Wx13 Wx13):=lh_ (Gr.refl _)
     refine qz1 fun T Y=>?_
     refine tk2_ ?_
     refine qe2 (cs:=#[.int .u64 (lo a.num.natAbs),.string (bg a.num.natAbs),.bool (a.num<0),.int .u64 (lo (a.den - 1)),.string (bg (a.den - 1)),.int .u64 (lo b.num.natAbs),.string (bg b.num.natAbs),.bool (b.num<0),.int .u64 (lo (b.den - 1)),.string (bg (b.den - 1))]) (E:=36) (n:=2) rfl (by rfl) (fun w' hw=>?_) (fun gx8 vv8 hg0 yx8 bx8=>?_)
     ·go_simp
     have YX8:=lh_ (Nat.le_trans HG0.out.size yx8)
     clear yx8
     replace HG0:=lh_ (HG0.out.trans hg0)
     have HGS:=lh_ hg0;clear hg0
     clear HGS
     have BX8:=lh_ bx8;clear bx8
     clear lx3;have lx3:=fun w' (h:Gr _ w')=>(BX3.out.gr I.out.1).cells w' (HG0.out.trans h)
     clear lx4;have lx4:=fun w' (h:Gr _ w')=>(BX4.out.gr I.out.1).cells w' (HG0.out.trans h)
     simp only [Act.put,lA,lB,lC]
     refine tk2_ ?_
     refine qa1 (Y.out _ _ ?_)
     intro vw8 hg
     simp only [puts,Act.put,lA,lB,lC,lD,lE,↓reduceIte,Nat.reduceEqDiff]
     have J:=lh_ (I.out.grS (HG0.out.trans hg) YX8.out (BX8.out.gr hg) (by decide))
     simp only [zq1_,zq2_,zq3_,zq4_,lF,lG] at J
     clear Y T I hg HG0 BX8 lx3 lx4
     clear YX8
     go_wp2
     refine kO O ?_;clear O K
     have I:=J;clear J
     refine wp_block ?_
     refine wp_loop_rounds 4 ?_
     rw [rounds_succ]
     refine ks1_ fun K O T Y=>?_
     refine tk ?_
     refine nlS Y I fun vw9 J=>?_
     clear Y T I
     go_wp2
     refine kO O ?_;clear O K
     have I:=J;clear J
     refine wp_seq ?_
     refine wp_cond_true (by rfl) ?_
     refine wp_skip ?_
     show Code.wp _ _ _ _ _
     refine wp_seq ?_
     refine wp_block ?_
     have lx8:=c3_ I
     refine ks2_ fun K O T Y=>?_
     refine tk2_ ?_
     refine nlS Y I fun vw10 J=>?_
     clear Y T I lx8
     go_wp2
     refine kF_ O ((J.out).aL (vw10.heap.size)) fun Wx16 I=>?_;clear O K
     clear J
     generalize vw10.heap.size=gx9 at *
     have HZ6:Hid (rlo a 80=la):=lh_ (HLA.out)
     have su6:sz la≤14:=by have e:=HZ6.out;first|omega|(rw [← e];exact Nat.le_trans (qd2 om om) om)
     have lx9:=c4_ I
     refine ks5_ fun K O T Y=>?_
     refine tk ?_
     refine ck Tryz.call23 (fun w' hw=>qb1 a la 80 _ (lh_ (by first|exact ok|exact HS0.out|exact HLT.out|exact HLW.out|exact HHG.out|exact Rat.zero_add _|exact HA0.out|exact HB0.out)) (lh_ HZ6.out) om om) ?_
     refine tk3_ ?_
     refine nlS Y I fun vw11 J=>?_
     clear Y T I lx9
     go_wp2
     refine kF_ O ((J.out).aL (vw11.heap.size)) fun Wx17 I=>?_;clear O K
     clear J
     generalize vw11.heap.size=gx10 at *
     have HZ7:Hid (rhi a 80=ha):=lh_ (HHA.out)
     have su7:sz ha≤14:=by have e:=HZ7.out;first|omega|(rw [← e];exact Nat.le_trans (qd8 om om) om)
     have lx9:=c4_ I
     refine ks5_ fun K O T Y=>?_
     refine tk ?_
     refine ck Tryz.call25 (fun w' hw=>qb6 a ha 80 _ (lh_ (by first|exact ok|exact HS0.out|exact HLT.out|exact HLW.out|exact HHG.out|exact Rat.zero_add _|exact HA0.out|exact HB0.out)) (lh_ HZ7.out) om om) ?_
     refine tk3_ ?_
     refine nlS Y I fun vw12 J=>?_
     clear Y T I lx9
     go_wp2
     refine kF_ O ((J.out).aL (vw12.heap.size)) fun Wx18 I=>?_;clear O K
     clear J
     generalize vw12.heap.size=gx11 at *
     have HZ8:Hid ((0:Rat)+(la)=la):=lh_ (by first|exact ok|exact HS0.out|exact HLT.out|exact HLW.out|exact HHG.out|exact Rat.zero_add _|exact HA0.out|exact HB0.out)
     have su8:sz la≤16:=by have e:=HZ8.out;first|omega|(rw [← e];have:=qe0 (0:Rat) la;omega)
     have lx6:=c1_ I
     have lx10:=c5_ I
     refine ks3_ fun K O T Y=>?_
     refine tk2_ ?_
     refine ck Tryz.call30 (fun w' hw=>qc5 (0:Rat) la la _ HZ8.out om om) ?_
     refine nlS Y I fun vw13 J=>?_
     clear Y T I lx6 lx10
     have lx6:=c1_ J;have fx6:=f1_ J
     have r0:=Gr.refl vw13
     go_wp2
     refine kO O ?_;clear O K
     clear r0 lx6 fx6
     refine fH ((((J.out).put2 1 0 rfl).put2 1 2 rfl).put 1 4 _ rfl) fun Wx19 I=>?_
     clear J
     have HZ9:Hid ((0:Rat)+(ha)=ha):=lh_ (by first|exact ok|exact HS0.out|exact HLT.out|exact HLW.out|exact HHG.out|exact Rat.zero_add _|exact HA0.out|exact HB0.out)
     have su9:sz ha≤16:=by have e:=HZ9.out;first|omega|(rw [← e];have:=qe0 (0:Rat) ha;omega)
     have lx7:=c2_ I
     have lx11:=c6_ I
     refine kL fun K O=>?_
     refine sq3_ fun T Y=>?_
     refine tk2_ ?_
     refine ck Tryz.call30 (fun w' hw=>qc5 (0:Rat) ha ha _ HZ9.out om om) ?_
     refine nlS Y I fun vw14 J=>?_
     clear Y T I lx7 lx11
     have lx7:=c2_ J;have fx7:=f2_ J
     have r0:=Gr.refl vw14
     go_wp2
     refine kO O ?_;clear O K
     clear r0 lx7 fx7
     refine fH ((((J.out).put2 2 0 rfl).put2 2 2 rfl).put 2 4 _ rfl) fun Wx20 I=>?_
     clear J
     refine kL fun K O=>?_
     refine sq2_ fun T Y=>?_
     refine tk2_ ?_
     refine nlS Y I fun vw15 J=>?_
     clear Y T I
     go_wp2
     refine O.out _ _ ?_;clear O K
     show Code.rounds _ _ _ _ _ _
     rw [rounds_succ]
     have I:=J;clear J
     refine ks1_ fun K O T Y=>?_
     refine tk ?_
     refine nlS Y I fun vw16 J=>?_
     clear Y T I
     go_wp2
     refine kO O ?_;clear O K
     have I:=J;clear J
     refine wp_seq ?_
     refine wp_cond_true (by rfl) ?_
     refine wp_skip ?_
     show Code.wp _ _ _ _ _
     refine wp_seq ?_
     refine wp_block ?_
     have lx8:=c3_ I
     refine ks2_ fun K O T Y=>?_
     refine tk2_ ?_
     refine nlS Y I fun vw17 J=>?_
     clear Y T I lx8
     go_wp2
     refine kF_ O (((J.out).aL (vw17.heap.size)).er 4) fun Wx16 I=>?_;clear O K
     clear J
     generalize vw17.heap.size=gx12 at *
     have HZ10:Hid (rlo b 80=lb):=lh_ (HLB.out)
     have su10:sz lb≤14:=by have e:=HZ10.out;first|omega|(rw [← e];exact Nat.le_trans (qd2 om om) om)
     have lx12:=c6_ I
     refine ks5_ fun K O T Y=>?_
     refine tk ?_
     refine ck Tryz.call23 (fun w' hw=>qb1 b lb 80 _ (lh_ (by first|exact ok|exact HS0.out|exact HLT.out|exact HLW.out|exact HHG.out|exact Rat.zero_add _|exact HA0.out|exact HB0.out)) (lh_ HZ10.out) om om) ?_
     refine tk3_ ?_
     refine nlS Y I fun vw18 J=>?_
     clear Y T I lx12
     go_wp2
     refine kF_ O (((J.out).aL (vw18.heap.size)).er 4) fun Wx17 I=>?_;clear O K
     clear J
     generalize vw18.heap.size=gx13 at *
     have HB:=HPb I
     have HZ11:Hid (rhi b 80=hb):=lh_ (HHB.out)
     have su11:sz hb≤14:=by have e:=HZ11.out;first|omega|(rw [← e];exact Nat.le_trans (qd8 om om) om)
     have lx12:=c5_ I
     refine ks5_ fun K O T Y=>?_
     refine tk ?_
     refine ck Tryz.call25 (fun w' hw=>qb6 b hb 80 _ (lh_ (by first|exact ok|exact HS0.out|exact HLT.out|exact HLW.out|exact HHG.out|exact Rat.zero_add _|exact HA0.out|exact HB0.out)) (lh_ HZ11.out) om om) ?_
     refine tk3_ ?_
     refine nlS Y I fun vw19 J=>?_
     clear Y T I lx12 HB
     go_wp2
     refine kF_ O (((J.out).aL (vw19.heap.size)).er 4) fun Wx18 I=>?_;clear O K
     clear J
     generalize vw19.heap.size=gx14 at *
     have HZ12:Hid (la+(lb)=lw):=lh_ (by first|exact ok|exact HS0.out|exact HLT.out|exact HLW.out|exact HHG.out|exact Rat.zero_add _|exact HA0.out|exact HB0.out)
     have su12:sz lw≤31:=by have e:=HZ12.out;first|omega|(rw [← e];have:=qe0 la lb;omega)
     have lx6:=c1_ I
     have lx13:=c5_ I
     refine ks3_ fun K O T Y=>?_
     refine tk2_ ?_
     refine ck Tryz.call30 (fun w' hw=>qc5 la lb lw _ HZ12.out om om) ?_
     refine nlS Y I fun vw20 J=>?_
     clear Y T I lx6 lx13
     have lx6:=c1_ J;have fx6:=f1_ J
     have r0:=Gr.refl vw20
     go_wp2
     refine kO O ?_;clear O K
     clear r0 lx6 fx6
     refine fH ((((J.out).put2 1 0 rfl).put2 1 2 rfl).put 1 4 _ rfl) fun Wx19 I=>?_
     clear J
     have HZ13:Hid (ha+(hb)=hg):=lh_ (by first|exact ok|exact HS0.out|exact HLT.out|exact HLW.out|exact HHG.out|exact Rat.zero_add _|exact HA0.out|exact HB0.out)
     have su13:sz hg≤31:=by have e:=HZ13.out;first|omega|(rw [← e];have:=qe0 ha hb;omega)
     have lx7:=c2_ I
     have lx14:=c6_ I
     refine kL fun K O=>?_
     refine sq3_ fun T Y=>?_
     refine tk2_ ?_
     refine ck Tryz.call30 (fun w' hw=>qc5 ha hb hg _ HZ13.out om om) ?_
     refine nlS Y I fun vw21 J=>?_
     clear Y T I lx7 lx14
     have lx7:=c2_ J;have fx7:=f2_ J
     have r0:=Gr.refl vw21
     go_wp2
     refine kO O ?_;clear O K
     clear r0 lx7 fx7
     refine fH ((((J.out).put2 2 0 rfl).put2 2 2 rfl).put 2 4 _ rfl) fun Wx20 I=>?_
     clear J
     refine kL fun K O=>?_
     refine sq2_ fun T Y=>?_
     refine tk2_ ?_
     refine nlS Y I fun vw22 J=>?_
     clear Y T I
     go_wp2
     refine O.out _ _ ?_;clear O K
     show Code.rounds _ _ _ _ _ _
     rw [rounds_succ]
     have I:=J;clear J
     refine ks1_ fun K O T Y=>?_
     refine tk ?_
     refine nlS Y I fun vw23 J=>?_
     clear Y T I
     go_wp2
     refine kO O ?_;clear O K
     have I:=J;clear J
     refine wp_seq ?_
     refine wp_cond_false (by rfl) ?_
     refine wp_exit ?_
     show Code.wp _ _ _ _ _
     have HZ14:Hid (rlo su 80=ls):=lh_ (HLS.out)
     have su14:sz ls≤111:=by have e:=HZ14.out;first|omega|(rw [← e];exact Nat.le_trans (qd2 om om) om)
     have lx5:=c0_ I
     refine ks5_ fun K O T Y=>?_
     refine tk ?_
     refine ck Tryz.call23 (fun w' hw=>qb1 su ls 80 _ (lh_ (by first|exact ok|exact HS0.out|exact HLT.out|exact HLW.out|exact HHG.out|exact Rat.zero_add _|exact HA0.out|exact HB0.out)) (lh_ HZ14.out) om om) ?_
     refine tk3_ ?_
     refine nlS Y I fun vw24 J=>?_
     clear Y T I lx5
     go_wp2
     refine kF_ O ((((((J.out).aL (vw24.heap.size)).er 6).er 5).er 4).er 3) fun Wx22 I=>?_;clear O K
     clear J
     generalize vw24.heap.size=gx15 at *
     have HZ15:Hid (rhi su 80=hs):=lh_ (HHS.out)
     have su15:sz hs≤111:=by have e:=HZ15.out;first|omega|(rw [← e];exact Nat.le_trans (qd8 om om) om)
     have lx5:=c0_ I
     refine ks5_ fun K O T Y=>?_
     refine tk ?_
     refine ck Tryz.call25 (fun w' hw=>qb6 su hs 80 _ (lh_ (by first|exact ok|exact HS0.out|exact HLT.out|exact HLW.out|exact HHG.out|exact Rat.zero_add _|exact HA0.out|exact HB0.out)) (lh_ HZ15.out) om om) ?_
     refine tk3_ ?_
     refine nlS Y I fun vw25 J=>?_
     clear Y T I lx5
     go_wp2
     refine kF_ O ((J.out).aL (vw25.heap.size)) fun Wx23 I=>?_;clear O K
     clear J
     generalize vw25.heap.size=gx16 at *
     refine wp_seq ?_
     have hcc3:¬ 0<c3:=by omega
     have hcc4:¬ 0<c4:=by omega
     have lx6:=c1_ I
     have lx7:=c2_ I
     have lx15:=c3_ I
     have lx16:=c4_ I
     refine xr6 fun K O T Y=>?_
     iterate 6 refine tk ?_
     iterate 4 refine sk ?_
     refine tk2_ ?_
     iterate 3 refine sk ?_
     iterate 6 refine tk ?_
     iterate 4 refine sk ?_
     iterate 8 refine tk ?_
     refine ck Tryz.call38 (fun w' hw=>qa8 lw hs c3 _ (HC3.out) om om) ?_
     iterate 4 refine tk ?_
     refine ck Tryz.call38 (fun w' hw=>qa8 ls hg c4 _ (HC4.out) om om) ?_
     iterate 4 refine tk ?_
     refine nlS Y I fun vw26 J=>?_
     clear Y T I lx6 lx7 lx15 lx16
     go_wp2
     refine kF_ O (((((J.out).er 4).er 3).er 2).er 1) fun Wx24 I=>?_;clear O K
     clear J
     clear hcc3 hcc4
     refine wp_cond_false (by rfl) ?_
     refine wp_skip ?_
     show Code.wp _ _ _ _ _
     have lx3:=(BX3.out.gr I.out.1).cells
     have lx4:=(BX4.out.gr I.out.1).cells
     refine kS fun K O=>?_
     have HG0:Hid (Gr Wx24 Wx24):=lh_ (Gr.refl _)
     refine qz4 fun T Y=>?_
     iterate 4 refine tk ?_
     refine qe2 (cs:=#[.int .u64 (lo a.num.natAbs),.string (bg a.num.natAbs),.bool (a.num<0),.int .u64 (lo (a.den - 1)),.string (bg (a.den - 1)),.int .u64 (lo b.num.natAbs),.string (bg b.num.natAbs),.bool (b.num<0),.int .u64 (lo (b.den - 1)),.string (bg (b.den - 1))]) (E:=36) (n:=2) rfl (by rfl) (fun w' hw=>?_) (fun gx17 vv17 hg0 yx17 bx17=>?_)
     ·go_simp
     clear yx17
     replace HG0:=lh_ (HG0.out.trans hg0)
     have HGS:=lh_ hg0;clear hg0
     clear HGS
     have BX17:=lh_ bx17;clear bx17
     clear lx3;have lx3:=fun w' (h:Gr _ w')=>(BX3.out.gr I.out.1).cells w' (HG0.out.trans h)
     clear lx4;have lx4:=fun w' (h:Gr _ w')=>(BX4.out.gr I.out.1).cells w' (HG0.out.trans h)
     simp only [Act.put,lA,lB,lC]
     refine ck Tryz.call34 (fun w' hw=>qo4 a b (a+(b)) _ 2 (rf2_ a b) d _ (lh_ (fs2 BX17.out hw)) om (lh_ (fsz2 om om)) (lh_ (xq8 _ _ _ rfl)) (by have:=qe0 a b;omega) om om (HA0.out) (HB0.out) (Rat.add_nonneg HA0.out HB0.out) (HD.out)) ?_
     iterate 5 refine tk ?_
     refine qa1 (Y.out _ _ ?_)
     intro vw27 hg
     simp only [puts,Act.put,lA,lB,lC,lD,lE,↓reduceIte,Nat.reduceEqDiff]
     have J:=lh_ (I.out.gr (HG0.out.trans hg))
     clear Y T I hg HG0 BX17 lx3 lx4
     go_wp2
     refine kO O ?_;clear O K
     have I:=J;clear J
     obtain ⟨u16,HZ16⟩:∃ z,Hid (a*(a)=z):=⟨_,lh_ rfl⟩
     have su16:sz u16≤8:=by rw [← HZ16.out];have:=qb0 a a;omega
     obtain ⟨u17,HZ17⟩:∃ z,Hid (b*(b)=z):=⟨_,lh_ rfl⟩
     have su17:sz u17≤8:=by rw [← HZ17.out];have:=qb0 b b;omega
     obtain ⟨u18,HZ18⟩:∃ z,Hid (su*(su)=z):=⟨_,lh_ rfl⟩
     have su18:sz u18≤202:=by rw [← HZ18.out];have:=qb0 su su;omega
     have lx5:=c0_ I
     have lx3:=(BX3.out.gr I.out.1).cells
     have lx4:=(BX4.out.gr I.out.1).cells
     refine kS fun K O=>?_
     have HG0:Hid (Gr vw27 vw27):=lh_ (Gr.refl _)
     refine qe4 12 [] [] (fun _=>0) (fun _=>.cells #[] 0) (fun i=>(1,#[.int .u64 (lo u18.num.natAbs),.string (bg u18.num.natAbs),.bool (u18.num<0),.int .u64 (lo (u18.den - 1)),.string (bg (u18.den - 1))],36)) [(0,0),(0,2),(0,4),(0,1),(0,3),(0,5),(1,6),(2,6),(0,7),(0,8),(0,9),(0,10),(0,11)] (by kernel_rfl) (by kernel_rfl) (fun i hi=>by cases hi) (fun i hi=>by cases hi) (fun _ _ _ _ _ h=>h) (fun T Y=>?_)
     iterate 3 (refine qc3 (v:=?_) rfl (by rfl) (fun w' hw=>?_) ?_;rotate_left;go_simp;with_reducible rfl;simp only [Act.put,lA,lB,lC])
     refine qa9 rfl (by rfl) Tryz.call37 (fun w' hw=>qa3 a u16 _ (lh_ HZ16.out) om) (by rfl) ?_
     simp only [Act.put,lA,lB,lC]
     refine qa9 rfl (by rfl) Tryz.call37 (fun w' hw=>qa3 b u17 _ (lh_ HZ17.out) om) (by rfl) ?_
     simp only [Act.put,lA,lB,lC]
     refine qa9 rfl (by rfl) Tryz.call37 (fun w' hw=>qa3 su u18 _ (lh_ HZ18.out) om) (by rfl) ?_
     simp only [Act.put,lA,lB,lC]
     refine qh8 rfl (by rfl) (fun w'=>?_) ?_
     ·go_simp
     refine qg4 rfl (by rfl) (fun gx18 vv18 hg0 yx18 bx18=>?_)
     clear yx18
     replace HG0:=lh_ (HG0.out.trans hg0)
     have HGS:=lh_ hg0;clear hg0
     clear HGS
     have BX18:=lh_ bx18;clear bx18
     clear lx5;have lx5:=fun w' (h:Gr _ w')=>c0_ I w' (HG0.out.trans h)
     clear lx3;have lx3:=fun w' (h:Gr _ w')=>(BX3.out.gr I.out.1).cells w' (HG0.out.trans h)
     clear lx4;have lx4:=fun w' (h:Gr _ w')=>(BX4.out.gr I.out.1).cells w' (HG0.out.trans h)
     simp only [Act.put,lA,lB,lC]
     refine qa9 rfl (by rfl) Tryz.call34 (fun w' hw=>qo4 u16 u17 u18 _ 1 (rf1_ u18) gg _ (lh_ (fs1 BX18.out hw)) om (lh_ (fsz1 om)) (lh_ (qB2 _)) om om om (by simp only [← HZ18.out,← HZ17.out,← HZ16.out];exact qb7 a) (by simp only [← HZ18.out,← HZ17.out,← HZ16.out];exact qb7 b) (by simp only [← HZ18.out,← HZ17.out,← HZ16.out];exact qb7 su) (by simp only [← HZ18.out,← HZ17.out,← HZ16.out];exact HSQ.out)) (by rfl) ?_
     simp only [Act.put,lA,lB,lC]
     iterate 4 (refine qc3 (v:=?_) rfl (by rfl) (fun w' hw=>?_) ?_;rotate_left;go_simp;with_reducible rfl;simp only [Act.put,lA,lB,lC])
     refine qg7 (Y.out _ _ ?_)
     intro G vw28 hg hf
     simp only [puts,Act.put,lA,lB,lC,lD,lE,↓reduceIte,Nat.reduceEqDiff]
     have J:=lh_ (I.out.gr (HG0.out.trans hg))
     clear Y T I hg hf HG0 BX18 lx5 lx3 lx4
     go_wp2
     refine kO O ?_;clear O K
     have I:=J;clear J
     by_cases ha0:a=0
     ·have HAZ:=lh_ ha0
      have HDT:Hid (d=0):=lh_ (HDZ.out.2 (.inl ha0))
      clear ha0
      have HB:=HPb I
      have hd1:0≤d:=by omega
      have hdz:(d == 0)=true:=by have h9:=HDT.out;simp [h9]
      obtain ⟨u19,HZ19⟩:∃ z,Hid (a+(b)=z):=⟨_,lh_ rfl⟩
      have su19:sz u19≤9:=by rw [← HZ19.out];have:=qe0 a b;omega
      have hgg:(gg == gg)=true:=by simp
      have lx5:=c0_ I
      have lx3:=(BX3.out.gr I.out.1).cells
      have lx4:=(BX4.out.gr I.out.1).cells
      refine kS fun K O=>?_
      refine qK6 fun T Y=>?_
      iterate 10 refine tk ?_
      refine ck Tryz.call35 (fun w' hw=>qa5 a (0) _ (by have e9:(a)=(0:Rat):=(by exact HAZ.out);exact qe9 e9)) ?_
      refine tk2_ ?_
      iterate 3 refine sk ?_
      iterate 8 refine tk ?_
      refine ck Tryz.call30 (fun w' hw=>qc5 a b u19 _ HZ19.out om om) ?_
      refine ck Tryz.call38 (fun w' hw=>qa8 u19 su gg _ (by simp only [← HZ19.out,← HZ18.out,← HZ17.out,← HZ16.out];exact HGG.out) om om) ?_
      iterate 7 refine tk ?_
      refine ck Tryz.call22 (fun w' hw=>qa6 _ (lh_ (HT.out.gr (Gr.trans HB.out hw)))) ?_
      refine tk ?_
      refine nlD Y I fun vw29 J=>?_
      clear Y T I lx5 lx3 lx4 HB
      go_wp2
      refine kF_ O ((J.out).er 0) fun Wx28 I=>?_;clear O K
      clear J
      clear hd1 hdz hgg
      refine wp_ret ?_
      try simp only [Exit.then,Exit.inBlock]
      exact bodyPost_ret (v:=.bool true) (by simp [results,Tryz.results8,go_sem]) rfl ⟨rfl,HBW.out.trans (I.out.1.mono HBW.out.size)⟩
     ·obtain ⟨sa,HSA⟩:∃ z,Hid (sgQ a=z):=⟨_,lh_ rfl⟩
      obtain ⟨sb,HSB⟩:∃ z,Hid (sgQ b=z):=⟨_,lh_ rfl⟩
      have hsan:¬ sa=0:=by rw [← HSA.out];exact qp1 ha0
      obtain ⟨bz,HBZ⟩:∃ z,Hid ((sb == 0)=z):=⟨_,lh_ rfl⟩
      have HBD:Hid ((d == 0)=bz):=lh_ (by
       rw [← HBZ.out,← HSB.out]
       have h9:=HDZ.out
       by_cases hb9:b=0
       ·rw [h9.2 (.inr hb9),hb9];rfl
       ·have e1:¬ d=0:=fun e=>by rcases h9.1 e with h|h;exact ha0 h;exact hb9 h
        have e2:=qp1 hb9
        have e3:(d == 0)=false:=by simpa using e1
        have e4:(sgQ b == 0)=false:=by simpa using e2
        rw [e3,e4])
      clear ha0
      have HB:=HPb I
      have hd1:0≤d:=by omega
      have hdz:(d == 0)=bz:=HBD.out
      have hsz:(sa == 0)=false:=by simpa using hsan
      have hsbz:(sb == 0)=bz:=HBZ.out
      have hbb:(bz == bz)=true:=by simp
      obtain ⟨u19,HZ19⟩:∃ z,Hid (a+(b)=z):=⟨_,lh_ rfl⟩
      have su19:sz u19≤9:=by rw [← HZ19.out];have:=qe0 a b;omega
      have hgg:(gg == gg)=true:=by simp
      have lx5:=c0_ I
      have lx3:=(BX3.out.gr I.out.1).cells
      have lx4:=(BX4.out.gr I.out.1).cells
      refine kS fun K O=>?_
      refine qK6 fun T Y=>?_
      iterate 10 refine tk ?_
      refine ck Tryz.call35 (fun w' hw=>qa5 a sa _ (HSA.out)) ?_
      refine tk3_ ?_
      refine ck Tryz.call35 (fun w' hw=>qa5 b sb _ (HSB.out)) ?_
      iterate 9 refine tk ?_
      refine ck Tryz.call30 (fun w' hw=>qc5 a b u19 _ HZ19.out om om) ?_
      refine ck Tryz.call38 (fun w' hw=>qa8 u19 su gg _ (by simp only [← HZ19.out,← HZ18.out,← HZ17.out,← HZ16.out];exact HGG.out) om om) ?_
      iterate 7 refine tk ?_
      refine ck Tryz.call22 (fun w' hw=>qa6 _ (lh_ (HT.out.gr (Gr.trans HB.out hw)))) ?_
      refine tk ?_
      refine nlD Y I fun vw29 J=>?_
      clear Y T I lx5 lx3 lx4 HB
      go_wp2
      refine kF_ O ((J.out).er 0) fun Wx28 I=>?_;clear O K
      clear J
      clear hd1 hdz hsz hsbz hbb hgg
      refine wp_ret ?_
      try simp only [Exit.then,Exit.inBlock]
      exact bodyPost_ret (v:=.bool true) (by simp [results,Tryz.results8,go_sem]) rfl ⟨rfl,HBW.out.trans (I.out.1.mono HBW.out.size)⟩
    ·obtain ⟨c5,HC5⟩:∃ z,Hid (sgQ (hg - ls)=z):=⟨_,lh_ rfl⟩
     have hc5:¬ c5<0:=by rw [← HC5.out,← HHG.out];exact xo0 (qT2 HA0.out HB0.out nha nhb nls qha qhb qls (by rw [HOV.out];decide))
     clear nla nlb nha nhb nls nhs qla qlb qls qha qhb qhs
     have HB:=HPb I
     refine ks2_ fun K O T Y=>?_
     refine tk ?_
     refine ck Tryz.call40 (fun w' hw=>qi2 n f _ su _ (HFS.out.gr (Gr.trans HB.out hw)) om HSa.out HSU.out) ?_
     refine nlS Y I fun vw4 J=>?_
     clear Y T I HB
     go_wp2
     refine kF_ O ((J.out).aL (vw4.heap.size)) fun Wx9 I=>?_;clear O K
     clear J
     generalize vw4.heap.size=gx5 at *
     have HB:=HPb I
     have lx3:=(BX3.out.gr I.out.1).cells
     have lx4:=(BX4.out.gr I.out.1).cells
     refine ks9_ fun K O T Y=>?_
     refine tk3_ ?_
     refine ck Tryz.call34 (fun w' hw=>qo4 a b su _ n f (1) _ (lh_ (HFS.out.gr (Gr.trans HB.out hw))) om HSa HSU om om om (HA0.out) (HB0.out) (HS0.out) (HOV.out)) ?_
     iterate 5 refine tk ?_
     refine nlS Y I fun vw5 J=>?_
     clear Y T I lx3 lx4 HB
     go_wp2
     refine kO O ?_;clear O K
     have I:=J;clear J
     refine wp_seq ?_
     obtain ⟨t5,HT5⟩:∃ z,Hid (sgQ su=z):=⟨_,lh_ rfl⟩
     have ht5:0≤t5:=by rw [← HT5.out];exact sgQ_nn0 HS0.out
     have hd1:¬ (t5<0):=by first|exact ok|exact HS0.out|exact HLT.out|exact HLW.out|exact HHG.out|exact Rat.zero_add _|exact HA0.out|exact HB0.out
     have lx5:=c0_ I
     refine ks3_ fun K O T Y=>?_
     refine tk ?_
     refine ck Tryz.call35 (fun w' hw=>qa5 su t5 _ HT5.out) ?_
     refine tk ?_
     refine nlS Y I fun vw6 J=>?_
     clear Y T I lx5
     go_wp2
     refine kO O ?_;clear O K
     have I:=J;clear J
     clear ht5 hd1
     refine wp_cond_false (by rfl) ?_
     refine wp_skip ?_
     show Code.wp _ _ _ _ _
     refine ks2_ fun K O T Y=>?_
     refine tk2_ ?_
     refine nlS Y I fun vw7 J=>?_
     clear Y T I
     go_wp2
     refine kF_ O (((J.out).aL (vw7.heap.size)).aL (vw7.heap.size+1)) fun Wx13 I=>?_;clear O K
     clear J
     generalize vw7.heap.size+1=gx7 at *
     generalize vw7.heap.size=gx6 at *
     refine wp_seq ?_
     have lx3:=(BX3.out.gr I.out.1).cells
     have lx4:=(BX4.out.gr I.out.1).cells
     refine kS fun K O=>?_
     have HG0:Hid (Gr Wx13 Wx13):=lh_ (Gr.refl _)
     refine qz1 fun T Y=>?_
     refine tk2_ ?_
     refine qe2 (cs:=#[.int .u64 (lo a.num.natAbs),.string (bg a.num.natAbs),.bool (a.num<0),.int .u64 (lo (a.den - 1)),.string (bg (a.den - 1)),.int .u64 (lo b.num.natAbs),.string (bg b.num.natAbs),.bool (b.num<0),.int .u64 (lo (b.den - 1)),.string (bg (b.den - 1))]) (E:=36) (n:=2) rfl (by rfl) (fun w' hw=>?_) (fun gx8 vv8 hg0 yx8 bx8=>?_)
     ·go_simp
     have YX8:=lh_ (Nat.le_trans HG0.out.size yx8)
     clear yx8
     replace HG0:=lh_ (HG0.out.trans hg0)
     have HGS:=lh_ hg0;clear hg0
     clear HGS
     have BX8:=lh_ bx8;clear bx8
     clear lx3;have lx3:=fun w' (h:Gr _ w')=>(BX3.out.gr I.out.1).cells w' (HG0.out.trans h)
     clear lx4;have lx4:=fun w' (h:Gr _ w')=>(BX4.out.gr I.out.1).cells w' (HG0.out.trans h)
     simp only [Act.put,lA,lB,lC]
     refine tk2_ ?_
     refine qa1 (Y.out _ _ ?_)
     intro vw8 hg
     simp only [puts,Act.put,lA,lB,lC,lD,lE,↓reduceIte,Nat.reduceEqDiff]
     have J:=lh_ (I.out.grS (HG0.out.trans hg) YX8.out (BX8.out.gr hg) (by decide))
     simp only [zq1_,zq2_,zq3_,zq4_,lF,lG] at J
     clear Y T I hg HG0 BX8 lx3 lx4
     clear YX8
     go_wp2
     refine kO O ?_;clear O K
     have I:=J;clear J
     refine wp_block ?_
     refine wp_loop_rounds 4 ?_
     rw [rounds_succ]
     refine ks1_ fun K O T Y=>?_
     refine tk ?_
     refine nlS Y I fun vw9 J=>?_
     clear Y T I
     go_wp2
     refine kO O ?_;clear O K
     have I:=J;clear J
     refine wp_seq ?_
     refine wp_cond_true (by rfl) ?_
     refine wp_skip ?_
     show Code.wp _ _ _ _ _
     refine wp_seq ?_
     refine wp_block ?_
     have lx8:=c3_ I
     refine ks2_ fun K O T Y=>?_
     refine tk2_ ?_
     refine nlS Y I fun vw10 J=>?_
     clear Y T I lx8
     go_wp2
     refine kF_ O ((J.out).aL (vw10.heap.size)) fun Wx16 I=>?_;clear O K
     clear J
     generalize vw10.heap.size=gx9 at *
     have HZ6:Hid (rlo a 80=la):=lh_ (HLA.out)
     have su6:sz la≤14:=by have e:=HZ6.out;first|omega|(rw [← e];exact Nat.le_trans (qd2 om om) om)
     have lx9:=c4_ I
     refine ks5_ fun K O T Y=>?_
     refine tk ?_
     refine ck Tryz.call23 (fun w' hw=>qb1 a la 80 _ (lh_ (by first|exact ok|exact HS0.out|exact HLT.out|exact HLW.out|exact HHG.out|exact Rat.zero_add _|exact HA0.out|exact HB0.out)) (lh_ HZ6.out) om om) ?_
     refine tk3_ ?_
     refine nlS Y I fun vw11 J=>?_
     clear Y T I lx9
     go_wp2
     refine kF_ O ((J.out).aL (vw11.heap.size)) fun Wx17 I=>?_;clear O K
     clear J
     generalize vw11.heap.size=gx10 at *
     have HZ7:Hid (rhi a 80=ha):=lh_ (HHA.out)
     have su7:sz ha≤14:=by have e:=HZ7.out;first|omega|(rw [← e];exact Nat.le_trans (qd8 om om) om)
     have lx9:=c4_ I
     refine ks5_ fun K O T Y=>?_
     refine tk ?_
     refine ck Tryz.call25 (fun w' hw=>qb6 a ha 80 _ (lh_ (by first|exact ok|exact HS0.out|exact HLT.out|exact HLW.out|exact HHG.out|exact Rat.zero_add _|exact HA0.out|exact HB0.out)) (lh_ HZ7.out) om om) ?_
     refine tk3_ ?_
     refine nlS Y I fun vw12 J=>?_
     clear Y T I lx9
     go_wp2
     refine kF_ O ((J.out).aL (vw12.heap.size)) fun Wx18 I=>?_;clear O K
     clear J
     generalize vw12.heap.size=gx11 at *
     have HZ8:Hid ((0:Rat)+(la)=la):=lh_ (by first|exact ok|exact HS0.out|exact HLT.out|exact HLW.out|exact HHG.out|exact Rat.zero_add _|exact HA0.out|exact HB0.out)
     have su8:sz la≤16:=by have e:=HZ8.out;first|omega|(rw [← e];have:=qe0 (0:Rat) la;omega)
     have lx6:=c1_ I
     have lx10:=c5_ I
     refine ks3_ fun K O T Y=>?_
     refine tk2_ ?_
     refine ck Tryz.call30 (fun w' hw=>qc5 (0:Rat) la la _ HZ8.out om om) ?_
     refine nlS Y I fun vw13 J=>?_
     clear Y T I lx6 lx10
     have lx6:=c1_ J;have fx6:=f1_ J
     have r0:=Gr.refl vw13
     go_wp2
     refine kO O ?_;clear O K
     clear r0 lx6 fx6
     refine fH ((((J.out).put2 1 0 rfl).put2 1 2 rfl).put 1 4 _ rfl) fun Wx19 I=>?_
     clear J
     have HZ9:Hid ((0:Rat)+(ha)=ha):=lh_ (by first|exact ok|exact HS0.out|exact HLT.out|exact HLW.out|exact HHG.out|exact Rat.zero_add _|exact HA0.out|exact HB0.out)
     have su9:sz ha≤16:=by have e:=HZ9.out;first|omega|(rw [← e];have:=qe0 (0:Rat) ha;omega)
     have lx7:=c2_ I
     have lx11:=c6_ I
     refine kL fun K O=>?_
     refine sq3_ fun T Y=>?_
     refine tk2_ ?_
     refine ck Tryz.call30 (fun w' hw=>qc5 (0:Rat) ha ha _ HZ9.out om om) ?_
     refine nlS Y I fun vw14 J=>?_
     clear Y T I lx7 lx11
     have lx7:=c2_ J;have fx7:=f2_ J
     have r0:=Gr.refl vw14
     go_wp2
     refine kO O ?_;clear O K
     clear r0 lx7 fx7
     refine fH ((((J.out).put2 2 0 rfl).put2 2 2 rfl).put 2 4 _ rfl) fun Wx20 I=>?_
     clear J
     refine kL fun K O=>?_
     refine sq2_ fun T Y=>?_
     refine tk2_ ?_
     refine nlS Y I fun vw15 J=>?_
     clear Y T I
     go_wp2
     refine O.out _ _ ?_;clear O K
     show Code.rounds _ _ _ _ _ _
     rw [rounds_succ]
     have I:=J;clear J
     refine ks1_ fun K O T Y=>?_
     refine tk ?_
     refine nlS Y I fun vw16 J=>?_
     clear Y T I
     go_wp2
     refine kO O ?_;clear O K
     have I:=J;clear J
     refine wp_seq ?_
     refine wp_cond_true (by rfl) ?_
     refine wp_skip ?_
     show Code.wp _ _ _ _ _
     refine wp_seq ?_
     refine wp_block ?_
     have lx8:=c3_ I
     refine ks2_ fun K O T Y=>?_
     refine tk2_ ?_
     refine nlS Y I fun vw17 J=>?_
     clear Y T I lx8
     go_wp2
     refine kF_ O (((J.out).aL (vw17.heap.size)).er 4) fun Wx16 I=>?_;clear O K
     clear J
     generalize vw17.heap.size=gx12 at *
     have HZ10:Hid (rlo b 80=lb):=lh_ (HLB.out)
     have su10:sz lb≤14:=by have e:=HZ10.out;first|omega|(rw [← e];exact Nat.le_trans (qd2 om om) om)
     have lx12:=c6_ I
     refine ks5_ fun K O T Y=>?_
     refine tk ?_
     refine ck Tryz.call23 (fun w' hw=>qb1 b lb 80 _ (lh_ (by first|exact ok|exact HS0.out|exact HLT.out|exact HLW.out|exact HHG.out|exact Rat.zero_add _|exact HA0.out|exact HB0.out)) (lh_ HZ10.out) om om) ?_
     refine tk3_ ?_
     refine nlS Y I fun vw18 J=>?_
     clear Y T I lx12
     go_wp2
     refine kF_ O (((J.out).aL (vw18.heap.size)).er 4) fun Wx17 I=>?_;clear O K
     clear J
     generalize vw18.heap.size=gx13 at *
     have HB:=HPb I
     have HZ11:Hid (rhi b 80=hb):=lh_ (HHB.out)
     have su11:sz hb≤14:=by have e:=HZ11.out;first|omega|(rw [← e];exact Nat.le_trans (qd8 om om) om)
     have lx12:=c5_ I
     refine ks5_ fun K O T Y=>?_
     refine tk ?_
     refine ck Tryz.call25 (fun w' hw=>qb6 b hb 80 _ (lh_ (by first|exact ok|exact HS0.out|exact HLT.out|exact HLW.out|exact HHG.out|exact Rat.zero_add _|exact HA0.out|exact HB0.out)) (lh_ HZ11.out) om om) ?_
     refine tk3_ ?_
     refine nlS Y I fun vw19 J=>?_
     clear Y T I lx12 HB
     go_wp2
     refine kF_ O (((J.out).aL (vw19.heap.size)).er 4) fun Wx18 I=>?_;clear O K
     clear J
     generalize vw19.heap.size=gx14 at *
     have HZ12:Hid (la+(lb)=lw):=lh_ (by first|exact ok|exact HS0.out|exact HLT.out|exact HLW.out|exact HHG.out|exact Rat.zero_add _|exact HA0.out|exact HB0.out)
     have su12:sz lw≤31:=by have e:=HZ12.out;first|omega|(rw [← e];have:=qe0 la lb;omega)
     have lx6:=c1_ I
     have lx13:=c5_ I
     refine ks3_ fun K O T Y=>?_
     refine tk2_ ?_
     refine ck Tryz.call30 (fun w' hw=>qc5 la lb lw _ HZ12.out om om) ?_
     refine nlS Y I fun vw20 J=>?_
     clear Y T I lx6 lx13
     have lx6:=c1_ J;have fx6:=f1_ J
     have r0:=Gr.refl vw20
     go_wp2
     refine kO O ?_;clear O K
     clear r0 lx6 fx6
     refine fH ((((J.out).put2 1 0 rfl).put2 1 2 rfl).put 1 4 _ rfl) fun Wx19 I=>?_
     clear J
     have HZ13:Hid (ha+(hb)=hg):=lh_ (by first|exact ok|exact HS0.out|exact HLT.out|exact HLW.out|exact HHG.out|exact Rat.zero_add _|exact HA0.out|exact HB0.out)
     have su13:sz hg≤31:=by have e:=HZ13.out;first|omega|(rw [← e];have:=qe0 ha hb;omega)
     have lx7:=c2_ I
     have lx14:=c6_ I
     refine kL fun K O=>?_
     refine sq3_ fun T Y=>?_
     refine tk2_ ?_
     refine ck Tryz.call30 (fun w' hw=>qc5 ha hb hg _ HZ13.out om om) ?_
     refine nlS Y I fun vw21 J=>?_
     clear Y T I lx7 lx14
     have lx7:=c2_ J;have fx7:=f2_ J
     have r0:=Gr.refl vw21
     go_wp2
     refine kO O ?_;clear O K
     clear r0 lx7 fx7
     refine fH ((((J.out).put2 2 0 rfl).put2 2 2 rfl).put 2 4 _ rfl) fun Wx20 I=>?_
     clear J
     refine kL fun K O=>?_
     refine sq2_ fun T Y=>?_
     refine tk2_ ?_
     refine nlS Y I fun vw22 J=>?_
     clear Y T I
     go_wp2
     refine O.out _ _ ?_;clear O K
     show Code.rounds _ _ _ _ _ _
     rw [rounds_succ]
     have I:=J;clear J
     refine ks1_ fun K O T Y=>?_
     refine tk ?_
     refine nlS Y I fun vw23 J=>?_
     clear Y T I
     go_wp2
     refine kO O ?_;clear O K
     have I:=J;clear J
     refine wp_seq ?_
     refine wp_cond_false (by rfl) ?_
     refine wp_exit ?_
     show Code.wp _ _ _ _ _
     have HZ14:Hid (rlo su 80=ls):=lh_ (HLS.out)
     have su14:sz ls≤111:=by have e:=HZ14.out;first|omega|(rw [← e];exact Nat.le_trans (qd2 om om) om)
     have lx5:=c0_ I
     refine ks5_ fun K O T Y=>?_
     refine tk ?_
     refine ck Tryz.call23 (fun w' hw=>qb1 su ls 80 _ (lh_ (by first|exact ok|exact HS0.out|exact HLT.out|exact HLW.out|exact HHG.out|exact Rat.zero_add _|exact HA0.out|exact HB0.out)) (lh_ HZ14.out) om om) ?_
     refine tk3_ ?_
     refine nlS Y I fun vw24 J=>?_
     clear Y T I lx5
     go_wp2
     refine kF_ O ((((((J.out).aL (vw24.heap.size)).er 6).er 5).er 4).er 3) fun Wx22 I=>?_;clear O K
     clear J
     generalize vw24.heap.size=gx15 at *
     have HZ15:Hid (rhi su 80=hs):=lh_ (HHS.out)
     have su15:sz hs≤111:=by have e:=HZ15.out;first|omega|(rw [← e];exact Nat.le_trans (qd8 om om) om)
     have lx5:=c0_ I
     refine ks5_ fun K O T Y=>?_
     refine tk ?_
     refine ck Tryz.call25 (fun w' hw=>qb6 su hs 80 _ (lh_ (by first|exact ok|exact HS0.out|exact HLT.out|exact HLW.out|exact HHG.out|exact Rat.zero_add _|exact HA0.out|exact HB0.out)) (lh_ HZ15.out) om om) ?_
     refine tk3_ ?_
     refine nlS Y I fun vw25 J=>?_
     clear Y T I lx5
     go_wp2
     refine kF_ O ((J.out).aL (vw25.heap.size)) fun Wx23 I=>?_;clear O K
     clear J
     generalize vw25.heap.size=gx16 at *
     refine wp_seq ?_
     have hcc5:¬ c5<0:=by omega
     have lx6:=c1_ I
     have lx7:=c2_ I
     have lx15:=c3_ I
     have lx16:=c4_ I
     refine xr6 fun K O T Y=>?_
     iterate 6 refine tk ?_
     iterate 4 refine sk ?_
     refine tk2_ ?_
     iterate 3 refine sk ?_
     iterate 8 refine tk ?_
     refine ck Tryz.call38 (fun w' hw=>qa8 hg ls c5 _ (HC5.out) om om) ?_
     iterate 7 refine tk ?_
     iterate 10 refine sk ?_
     refine tk2_ ?_
     refine nlS Y I fun vw26 J=>?_
     clear Y T I lx6 lx7 lx15 lx16
     go_wp2
     refine kF_ O (((((J.out).er 4).er 3).er 2).er 1) fun Wx24 I=>?_;clear O K
     clear J
     clear hcc5
     refine wp_cond_false (by rfl) ?_
     refine wp_skip ?_
     show Code.wp _ _ _ _ _
     have lx3:=(BX3.out.gr I.out.1).cells
     have lx4:=(BX4.out.gr I.out.1).cells
     refine kS fun K O=>?_
     have HG0:Hid (Gr Wx24 Wx24):=lh_ (Gr.refl _)
     refine qz4 fun T Y=>?_
     iterate 4 refine tk ?_
     refine qe2 (cs:=#[.int .u64 (lo a.num.natAbs),.string (bg a.num.natAbs),.bool (a.num<0),.int .u64 (lo (a.den - 1)),.string (bg (a.den - 1)),.int .u64 (lo b.num.natAbs),.string (bg b.num.natAbs),.bool (b.num<0),.int .u64 (lo (b.den - 1)),.string (bg (b.den - 1))]) (E:=36) (n:=2) rfl (by rfl) (fun w' hw=>?_) (fun gx17 vv17 hg0 yx17 bx17=>?_)
     ·go_simp
     clear yx17
     replace HG0:=lh_ (HG0.out.trans hg0)
     have HGS:=lh_ hg0;clear hg0
     clear HGS
     have BX17:=lh_ bx17;clear bx17
     clear lx3;have lx3:=fun w' (h:Gr _ w')=>(BX3.out.gr I.out.1).cells w' (HG0.out.trans h)
     clear lx4;have lx4:=fun w' (h:Gr _ w')=>(BX4.out.gr I.out.1).cells w' (HG0.out.trans h)
     simp only [Act.put,lA,lB,lC]
     refine ck Tryz.call34 (fun w' hw=>qo4 a b (a+(b)) _ 2 (rf2_ a b) d _ (lh_ (fs2 BX17.out hw)) om (lh_ (fsz2 om om)) (lh_ (xq8 _ _ _ rfl)) (by have:=qe0 a b;omega) om om (HA0.out) (HB0.out) (Rat.add_nonneg HA0.out HB0.out) (HD.out)) ?_
     iterate 5 refine tk ?_
     refine qa1 (Y.out _ _ ?_)
     intro vw27 hg
     simp only [puts,Act.put,lA,lB,lC,lD,lE,↓reduceIte,Nat.reduceEqDiff]
     have J:=lh_ (I.out.gr (HG0.out.trans hg))
     clear Y T I hg HG0 BX17 lx3 lx4
     go_wp2
     refine kO O ?_;clear O K
     have I:=J;clear J
     obtain ⟨u16,HZ16⟩:∃ z,Hid (a*(a)=z):=⟨_,lh_ rfl⟩
     have su16:sz u16≤8:=by rw [← HZ16.out];have:=qb0 a a;omega
     obtain ⟨u17,HZ17⟩:∃ z,Hid (b*(b)=z):=⟨_,lh_ rfl⟩
     have su17:sz u17≤8:=by rw [← HZ17.out];have:=qb0 b b;omega
     obtain ⟨u18,HZ18⟩:∃ z,Hid (su*(su)=z):=⟨_,lh_ rfl⟩
     have su18:sz u18≤202:=by rw [← HZ18.out];have:=qb0 su su;omega
     have lx5:=c0_ I
     have lx3:=(BX3.out.gr I.out.1).cells
     have lx4:=(BX4.out.gr I.out.1).cells
     refine kS fun K O=>?_
     have HG0:Hid (Gr vw27 vw27):=lh_ (Gr.refl _)
     refine qe4 12 [] [] (fun _=>0) (fun _=>.cells #[] 0) (fun i=>(1,#[.int .u64 (lo u18.num.natAbs),.string (bg u18.num.natAbs),.bool (u18.num<0),.int .u64 (lo (u18.den - 1)),.string (bg (u18.den - 1))],36)) [(0,0),(0,2),(0,4),(0,1),(0,3),(0,5),(1,6),(2,6),(0,7),(0,8),(0,9),(0,10),(0,11)] (by kernel_rfl) (by kernel_rfl) (fun i hi=>by cases hi) (fun i hi=>by cases hi) (fun _ _ _ _ _ h=>h) (fun T Y=>?_)
     iterate 3 (refine qc3 (v:=?_) rfl (by rfl) (fun w' hw=>?_) ?_;rotate_left;go_simp;with_reducible rfl;simp only [Act.put,lA,lB,lC])
     refine qa9 rfl (by rfl) Tryz.call37 (fun w' hw=>qa3 a u16 _ (lh_ HZ16.out) om) (by rfl) ?_
     simp only [Act.put,lA,lB,lC]
     refine qa9 rfl (by rfl) Tryz.call37 (fun w' hw=>qa3 b u17 _ (lh_ HZ17.out) om) (by rfl) ?_
     simp only [Act.put,lA,lB,lC]
     refine qa9 rfl (by rfl) Tryz.call37 (fun w' hw=>qa3 su u18 _ (lh_ HZ18.out) om) (by rfl) ?_
     simp only [Act.put,lA,lB,lC]
     refine qh8 rfl (by rfl) (fun w'=>?_) ?_
     ·go_simp
     refine qg4 rfl (by rfl) (fun gx18 vv18 hg0 yx18 bx18=>?_)
     clear yx18
     replace HG0:=lh_ (HG0.out.trans hg0)
     have HGS:=lh_ hg0;clear hg0
     clear HGS
     have BX18:=lh_ bx18;clear bx18
     clear lx5;have lx5:=fun w' (h:Gr _ w')=>c0_ I w' (HG0.out.trans h)
     clear lx3;have lx3:=fun w' (h:Gr _ w')=>(BX3.out.gr I.out.1).cells w' (HG0.out.trans h)
     clear lx4;have lx4:=fun w' (h:Gr _ w')=>(BX4.out.gr I.out.1).cells w' (HG0.out.trans h)
     simp only [Act.put,lA,lB,lC]
     refine qa9 rfl (by rfl) Tryz.call34 (fun w' hw=>qo4 u16 u17 u18 _ 1 (rf1_ u18) gg _ (lh_ (fs1 BX18.out hw)) om (lh_ (fsz1 om)) (lh_ (qB2 _)) om om om (by simp only [← HZ18.out,← HZ17.out,← HZ16.out];exact qb7 a) (by simp only [← HZ18.out,← HZ17.out,← HZ16.out];exact qb7 b) (by simp only [← HZ18.out,← HZ17.out,← HZ16.out];exact qb7 su) (by simp only [← HZ18.out,← HZ17.out,← HZ16.out];exact HSQ.out)) (by rfl) ?_
     simp only [Act.put,lA,lB,lC]
     iterate 4 (refine qc3 (v:=?_) rfl (by rfl) (fun w' hw=>?_) ?_;rotate_left;go_simp;with_reducible rfl;simp only [Act.put,lA,lB,lC])
     refine qg7 (Y.out _ _ ?_)
     intro G vw28 hg hf
     simp only [puts,Act.put,lA,lB,lC,lD,lE,↓reduceIte,Nat.reduceEqDiff]
     have J:=lh_ (I.out.gr (HG0.out.trans hg))
     clear Y T I hg hf HG0 BX18 lx5 lx3 lx4
     go_wp2
     refine kO O ?_;clear O K
     have I:=J;clear J
     by_cases ha0:a=0
     ·have HAZ:=lh_ ha0
      have HDT:Hid (d=0):=lh_ (HDZ.out.2 (.inl ha0))
      clear ha0
      have HB:=HPb I
      have hd1:0≤d:=by omega
      have hdz:(d == 0)=true:=by have h9:=HDT.out;simp [h9]
      obtain ⟨u19,HZ19⟩:∃ z,Hid (a+(b)=z):=⟨_,lh_ rfl⟩
      have su19:sz u19≤9:=by rw [← HZ19.out];have:=qe0 a b;omega
      have hgg:(gg == gg)=true:=by simp
      have lx5:=c0_ I
      have lx3:=(BX3.out.gr I.out.1).cells
      have lx4:=(BX4.out.gr I.out.1).cells
      refine kS fun K O=>?_
      refine qK6 fun T Y=>?_
      iterate 10 refine tk ?_
      refine ck Tryz.call35 (fun w' hw=>qa5 a (0) _ (by have e9:(a)=(0:Rat):=(by exact HAZ.out);exact qe9 e9)) ?_
      refine tk2_ ?_
      iterate 3 refine sk ?_
      iterate 8 refine tk ?_
      refine ck Tryz.call30 (fun w' hw=>qc5 a b u19 _ HZ19.out om om) ?_
      refine ck Tryz.call38 (fun w' hw=>qa8 u19 su gg _ (by simp only [← HZ19.out,← HZ18.out,← HZ17.out,← HZ16.out];exact HGG.out) om om) ?_
      iterate 7 refine tk ?_
      refine ck Tryz.call22 (fun w' hw=>qa6 _ (lh_ (HT.out.gr (Gr.trans HB.out hw)))) ?_
      refine tk ?_
      refine nlD Y I fun vw29 J=>?_
      clear Y T I lx5 lx3 lx4 HB
      go_wp2
      refine kF_ O ((J.out).er 0) fun Wx28 I=>?_;clear O K
      clear J
      clear hd1 hdz hgg
      refine wp_ret ?_
      try simp only [Exit.then,Exit.inBlock]
      exact bodyPost_ret (v:=.bool true) (by simp [results,Tryz.results8,go_sem]) rfl ⟨rfl,HBW.out.trans (I.out.1.mono HBW.out.size)⟩
     ·obtain ⟨sa,HSA⟩:∃ z,Hid (sgQ a=z):=⟨_,lh_ rfl⟩
      obtain ⟨sb,HSB⟩:∃ z,Hid (sgQ b=z):=⟨_,lh_ rfl⟩
      have hsan:¬ sa=0:=by rw [← HSA.out];exact qp1 ha0
      obtain ⟨bz,HBZ⟩:∃ z,Hid ((sb == 0)=z):=⟨_,lh_ rfl⟩
      have HBD:Hid ((d == 0)=bz):=lh_ (by
       rw [← HBZ.out,← HSB.out]
       have h9:=HDZ.out
       by_cases hb9:b=0
       ·rw [h9.2 (.inr hb9),hb9];rfl
       ·have e1:¬ d=0:=fun e=>by rcases h9.1 e with h|h;exact ha0 h;exact hb9 h
        have e2:=qp1 hb9
        have e3:(d == 0)=false:=by simpa using e1
        have e4:(sgQ b == 0)=false:=by simpa using e2
        rw [e3,e4])
      clear ha0
      have HB:=HPb I
      have hd1:0≤d:=by omega
      have hdz:(d == 0)=bz:=HBD.out
      have hsz:(sa == 0)=false:=by simpa using hsan
      have hsbz:(sb == 0)=bz:=HBZ.out
      have hbb:(bz == bz)=true:=by simp
      obtain ⟨u19,HZ19⟩:∃ z,Hid (a+(b)=z):=⟨_,lh_ rfl⟩
      have su19:sz u19≤9:=by rw [← HZ19.out];have:=qe0 a b;omega
      have hgg:(gg == gg)=true:=by simp
      have lx5:=c0_ I
      have lx3:=(BX3.out.gr I.out.1).cells
      have lx4:=(BX4.out.gr I.out.1).cells
      refine kS fun K O=>?_
      refine qK6 fun T Y=>?_
      iterate 10 refine tk ?_
      refine ck Tryz.call35 (fun w' hw=>qa5 a sa _ (HSA.out)) ?_
      refine tk3_ ?_
      refine ck Tryz.call35 (fun w' hw=>qa5 b sb _ (HSB.out)) ?_
      iterate 9 refine tk ?_
      refine ck Tryz.call30 (fun w' hw=>qc5 a b u19 _ HZ19.out om om) ?_
      refine ck Tryz.call38 (fun w' hw=>qa8 u19 su gg _ (by simp only [← HZ19.out,← HZ18.out,← HZ17.out,← HZ16.out];exact HGG.out) om om) ?_
      iterate 7 refine tk ?_
      refine ck Tryz.call22 (fun w' hw=>qa6 _ (lh_ (HT.out.gr (Gr.trans HB.out hw)))) ?_
      refine tk ?_
      refine nlD Y I fun vw29 J=>?_
      clear Y T I lx5 lx3 lx4 HB
      go_wp2
      refine kF_ O ((J.out).er 0) fun Wx28 I=>?_;clear O K
      clear J
      clear hd1 hdz hsz hsbz hbb hgg
      refine wp_ret ?_
      try simp only [Exit.then,Exit.inBlock]
      exact bodyPost_ret (v:=.bool true) (by simp [results,Tryz.results8,go_sem]) rfl ⟨rfl,HBW.out.trans (I.out.1.mono HBW.out.size)⟩
  ·rcases HQ.out with ⟨_,_,_,hz⟩|⟨b9,o9,c',hv,hb,hc⟩
   ·omega
   injection hv with hv1 _ hv3
   subst hv1 hv3
   have hkn':k<n:=by omega
   obtain ⟨x,HX⟩:∃ x,Hid (N k=x):=⟨_,lh_ rfl⟩
   obtain ⟨y,HY⟩:∃ x,Hid (D k=x):=⟨_,lh_ rfl⟩
   obtain ⟨q,HQQ⟩:∃ q,Hid (qv x y=q):=⟨_,lh_ rfl⟩
   have HXB:=HQB.out k hkn'
   rw [HX.out,HY.out] at HXB
   obtain ⟨x1,x2,y1,y2⟩:=HXB
   have HFK:Hid (f k=q):=lh_ (by rw [← Hf.out,HX.out,HY.out];exact HQQ.out)
   have HE0:Hid (∀ w',Gr w w'→w'.cell? ⟨b9,o9+k*2,none⟩=some (.int .i64 x)):=lh_ (fun w' hw=>(Below.cell hw (p:=⟨b9,o9+k*2,none⟩) hb).trans (by rw [← HX.out];exact (hc k hkn').1))
   have HE1:Hid (∀ w',Gr w w'→w'.cell? ⟨b9,o9+k*2+1,none⟩=some (.int .u32 y)):=lh_ (fun w' hw=>(Below.cell hw (p:=⟨b9,o9+k*2+1,none⟩) hb).trans (by rw [← HY.out];exact (hc k hkn').2))
   clear hc hb
   have hkl:(k:Int)<(n:Int):=by omega
   refine wp_seq ?_
   refine kS fun K O=>?_
   go_wp2
   refine kO O ?_;clear O K
   refine wp_cond_true (by rfl) ?_
   refine wp_skip ?_
   show Code.wp _ _ _ _ _
   refine wp_seq ?_
   refine wp_block ?_
   refine kL fun K O=>?_
   have e0:=HE0.out wr I.out.1
   have e1:=HE1.out wr I.out.1
   go_wp2_with fail
   refine (qf9 x y q wr HQQ.out x1 x2 y1 y2).mono ?_
   rintro e w1 ⟨rfl,hb1⟩
   have HF1:=lh_ (I.out.gr hb1)
   have HW1:=lh_ (xi0 HW.out hb1)
   clear hb1 e0 e1 I HW
   have HN:=lh_ (show ∀ j u,[.int .u64 (lo q.num.natAbs),.string (bg q.num.natAbs),.bool (q.num<0),.int .u64 (lo (q.den - 1)),.string (bg (q.den - 1))][j]?=some u→(w1.alloc (.cells #[.int .u64 (lo q.num.natAbs),.string (bg q.num.natAbs),.bool (q.num<0),.int .u64 (lo (q.den - 1)),.string (bg (q.den - 1))] 36)).cell? ((⟨w1.heap.size,0,none⟩:Addr).add j)=some u from fun j u hj=>by
    match j,hj with
    | 0,hj=>simp at hj;subst hj;simp [Addr.add,go_sem]
    | 1,hj=>simp at hj;subst hj;simp [Addr.add,go_sem]
    | 2,hj=>simp at hj;subst hj;simp [Addr.add,go_sem]
    | 3,hj=>simp at hj;subst hj;simp [Addr.add,go_sem]
    | 4,hj=>simp at hj;subst hj;simp [Addr.add,go_sem])
   have HF2:=lh_ (HF1.out.gr (Gr.alloc _ (.cells #[.int .u64 (lo q.num.natAbs),.string (bg q.num.natAbs),.bool (q.num<0),.int .u64 (lo (q.den - 1)),.string (bg (q.den - 1))] 36)))
   have HW2:=lh_ (xi0 HW1.out (Gr.alloc _ (.cells #[.int .u64 (lo q.num.natAbs),.string (bg q.num.natAbs),.bool (q.num<0),.int .u64 (lo (q.den - 1)),.string (bg (q.den - 1))] 36)))
   clear HF1 HW1
   go_wp2_with (first|(at_builtin;refine apX HF2 HW2 HAP (.tmp 46) (.tmp 52) 82 hi hz0 hz1 hz2 rfl Tryz.underlying82 (m:=1) (c:=1) (ad:=⟨w1.heap.size,0,none⟩) (news:=[.int .u64 (lo q.num.natAbs),.string (bg q.num.natAbs),.bool (q.num<0),.int .u64 (lo (q.den - 1)),.string (bg (q.den - 1))]) (by unfold maxLen;omega) om (by intro i v m h;rcases i with _|_|i <;> simp at h) (by simp [Act.eval,Act.put]) (by simp [Act.eval,Act.put]) HN rfl ?c1 (by decide) rfl rfl ?_)|fail)
   case c1=>intro u hu;simp at hu;rcases hu with rfl|rfl|rfl|rfl|rfl <;> rfl
   intro u' w3 HF3 HW3 HA3
   clear HF2 HW2 HAP HN
   go_wp2_with fail
   refine kO O ?_;clear O K
   have I:=HF3;have HW:=HW3;have HAP:=HA3;clear HF3 HW3 HA3
   have hwi:IntKind.i64.wrap ((k:Int)+1)=(k:Int)+1:=by rw [IntKind.wrap_i64];omega
   refine kL fun K O=>?_
   go_wp2
   refine O.out _ _ ?_;clear O K
   try simp only [Exit.then,Exit.inBlock]
   clear hwi
   refine hj0_ _ _ ?_
   go_roundg kk
   case measure=>omega
   case rel=>exact ⟨k+1,rfl,by omega,fun h=>by omega,I,lh_ (by rw [fcs,HFK.out];exact HW.out),HAP⟩
theorem qS7 (n1 d1 n2 d2:Int) (v:Value) (n:Nat) (N D:Nat→Int) (w:World) (HQ:Hid (Qs w v n N D)) (hn:6<n) (HT:Hid (Tab w)) :
  Calls Tryz.prog 8 #[.agg #[.int .i64 n1,.int .u32 d1],.agg #[.int .i64 n2,.int .u32 d2],v] w fun e w'=>e=.returned (.bool true)∧Below w.heap.size w w':=by
 obtain ⟨ao,c,rfl⟩:=HQ.out.slice
 have hn':(6:Int)<(n:Int):=by omega
 go_enter Tryz.func8,Tryz.ntmps8
 go_wp2_with fail
 refine (qa6 _ (lh_ (HT.out.gr (((Gr.refl w).trans (Gr.alloc _ _)).trans (Gr.alloc _ _))))).mono ?_
 rintro e V1 ⟨rfl,hb⟩
 have HGf:=lh_ ((((Below.refl w.heap.size w).alloc (Nat.le_refl _) _).alloc (by simp) _).trans (hb.mono (by simp;omega)))
 clear hb
 go_wp2_with fail
 exact bodyPost_ret (v:=.bool true) (by simp [results,Tryz.results8,go_sem]) rfl ⟨rfl,HGf.out⟩
theorem qC4 (n1 d1 n2 d2:Int) (v:Value) (n:Nat) (N D:Nat→Int) (w:World) (h1_1:-9223372036854775808≤n1) (h2_1:n1≤9223372036854775807) (h3_1:0≤d1) (h4_1:d1≤4294967295) (h1_2:-9223372036854775808≤n2) (h2_2:n2≤9223372036854775807) (h3_2:0≤d2) (h4_2:d2≤4294967295) (HQ:Hid (Qs w v n N D)) (HQB:Hid (Qb n N D)) (HT:Hid (Tab w)) :
  Calls Tryz.prog 8 #[.agg #[.int .i64 n1,.int .u32 d1],.agg #[.int .i64 n2,.int .u32 d2],v] w fun e w'=>e=.returned (.bool true)∧Below w.heap.size w w':=by
 by_cases hn:n≤6
 ·have hs:∀ i,i<n→sz (qv (N i) (D i))≤4:=fun i hi=>by obtain ⟨a,b,c,d⟩:=HQB.out i hi;exact qh0 _ _ a b c d
  have h5:=qS9 (fun i=>qv (N i) (D i)) n 4 hs n (Nat.le_refl _)
  exact qK_ n1 d1 n2 d2 v n N D _ _ _ _ _ (fun i=>qv (N i) (D i)) w h1_1 h2_1 h3_1 h4_1 h1_2 h2_2 h3_2 h4_2 HQ HQB hn (lh_ rfl) (lh_ rfl) (lh_ rfl) (lh_ rfl) (lh_ (qj2 _)) (lh_ (qj2 _)) (by rw [qc8];exact qh0 n1 d1 h1_1 h2_1 h3_1 h4_1) (by rw [qc8];exact qh0 n2 d2 h1_2 h2_2 h3_2 h4_2) (lh_ fun _=>rfl) (lh_ rfl) om (lh_ (fun i hi=>Nat.le_trans (hs i hi) (by decide))) HT
 ·exact qS7 n1 d1 n2 d2 v n N D w HQ om HT
end Go.Proofs.YtaflakcemiilaaaGreatDoor
