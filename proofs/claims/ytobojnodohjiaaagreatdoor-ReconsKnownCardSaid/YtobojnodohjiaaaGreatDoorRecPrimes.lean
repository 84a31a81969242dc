
/- ReconsPrimes: the law's walk. -/
import Derived.Test.YtobojnodohjiaaaGreatDoorModB
import Derived.Test.YtobojnodohjiaaaGreatDoorRecW
import Derived.Test.YtobojnodohjiaaaGreatDoorPL
import Derived.Test.YtobojnodohjiaaaGreatDoorRsP
set_option maxRecDepth 100000
set_option maxHeartbeats 16000000
set_option linter.unusedVariables false
set_option linter.unusedSimpArgs false
namespace Go.Proofs.YtobojnodohjiaaaGreatDoor
open Go.RowKit
attribute [local go_sem ↓] Go.wp_at_zero Go.wp_at_succ
attribute [local go_sem ↓] qb8 qa3 qc8 qd9 qb7
attribute [local go_sem] Instr.field asAgg
theorem qD6 (n0 d0:Int) (v:Value) (k:Nat) (fw:Nat→Nat) (q:Rat) (w:World) (h1_0:-9223372036854775808≤n0) (h2_0:n0≤9223372036854775807) (h3_0:0≤d0) (h4_0:d0≤4294967295) (HWA:Hid (Wa w v k fw)) (hk8:k≤8) (HQ:Hid (qv n0 d0=q)) (hsq:sz q≤4) (HT:Hid (Tab w)) :
  Calls Tryz.prog 10 #[.agg #[.int .i64 n0,.int .u32 d0],v] w fun e w'=>e=.returned (.bool true)∧Below w.heap.size w w':=by
 obtain ⟨ao,c,rfl⟩:=HWA.out.slice
 obtain ⟨i0,hi,hz0,hz1,hz2⟩:=info_parts qf6
 have hw1:IntKind.i64.wrap 1=1:=by decide
 go_enter Tryz.func10,Tryz.ntmps10
 have I:=lh_ (hp0 w)
 refine kS fun K O=>?_
 refine wp_region_lit ?_
 go_wp2
 refine kF_ O ((I.out).aL (w.heap.size)) fun Wx0 J=>?_;clear O K
 clear I;have I:=J;clear J
 refine wp_seq ?_
 have hn8:¬ 8<(k:Int):=by omega
 refine ks3_ fun K O T Y=>?_
 refine tk3_ ?_
 refine nlS Y I fun vw1 J=>?_
 clear Y T I
 go_wp2
 refine kO O ?_;clear O K
 have I:=J;clear J
 clear hn8
 refine wp_cond_false (by rfl) ?_
 refine wp_skip ?_
 show Code.wp _ _ _ _ _
 have HZ1:Hid (qv n0 d0=q):=lh_ (HQ.out)
 have su1:sz q≤4:=by have e:=HZ1.out;first|omega|(rw [← e];exact xB4 n0 d0 om om om om)
 have lx0:=kc0_ I
 refine ks2_ fun K O T Y=>?_
 refine tk ?_
 refine ck Tryz.call50 (fun w' hw=>xz3 n0 d0 q _ HZ1.out om om om om) ?_
 refine nlS Y I fun vw2 J=>?_
 clear Y T I lx0
 go_wp2
 refine kF_ O (((J.out).aL (vw2.heap.size)).er 0) fun Wx3 I=>?_;clear O K
 clear J
 generalize vw2.heap.size=gx2 at *
 refine kS fun K O=>?_
 refine wp_region_lit ?_
 go_wp2
 refine kF_ O (I.out) fun Wx4 J=>?_;clear O K
 clear I;have I:=J;clear J
 refine wp_seq ?_
 refine kS fun K O=>?_
 refine wp_region_lit ?_
 go_wp2
 refine kF_ O (I.out) fun Wx5 J=>?_;clear O K
 clear I;have I:=J;clear J
 refine wp_block ?_
 go_loopg [6,7] k (fun kk u iv wr=>∃ (i n:Nat) (F:Nat→Int × Nat),iv=.int .i64 (i:Int)∧i+kk=k∧n≤i∧(n=0→u=.slice none 0 0)∧Hid (prm q F n)∧Hid (HP w wr [Sum.inl (gx2,36,#[.int .u64 (lo q.num.natAbs),.string (bg q.num.natAbs),.bool (q.num<0),.int .u64 (lo (q.den - 1)),.string (bg (q.den - 1))])])∧Hid (wr.ownsRow w.heap.size 71 5 u n (rcs F n))∧Hid (Apart [Sum.inl (gx2,36,#[.int .u64 (lo q.num.natAbs),.string (bg q.num.natAbs),.bool (q.num<0),.int .u64 (lo (q.den - 1)),.string (bg (q.den - 1))])] u))
 case atStart=>exact ⟨0,0,fun _=>(0,1),rfl,by omega,Nat.le_refl _,fun _=>rfl,lh_ (fun j h=>absurd h (Nat.not_lt_zero _)),I,lh_ (World.ownsRow_nil _ _ _ _),lh_ (fun i x hx e=>by cases e)⟩
 case round =>
  rename_i J_ K_ hj1_ hj0_
  clear I
  obtain ⟨i,n,F,rfl,hik,hni,hu0,HPR,I,HWR,HAP⟩:=hrel
  rcases gk with _|kk
  ·obtain rfl:k=i:=by omega
   have HFS:Hid (Rs wr u6 n F):=lh_ (by
    rcases Nat.eq_zero_or_pos n with h|h
    ·rw [hu0 h,h];exact rs0 _ _
    ·obtain ⟨gR,cur,h1,h2⟩:=xi_ I.out HWR.out HAP.out h (by decide)
     exact qs2 h2 ((h1.bx 1 rfl).gr (Gr.refl _)))
   have BX2:=lh_ (I.out.bx 0 rfl)
   have HBW:=lh_ I.out.1
   replace HT:=lh_ (HT.out.gr HBW.out)
   obtain ⟨R,M,hcv,hft,hwM,hwR⟩:=xp3 HPR.out
   have HCV:=lh_ hcv
   have HFT:=lh_ hft
   have HSZ:Hid (∀ j,j<n→wl (F j).1.natAbs≤100∧wl (F j).2≤10):=lh_ (fun j hj=>by
    obtain ⟨a1,a2,a3,a4,_⟩:=HPR.out j hj
    exact ⟨Nat.le_trans (qa6 om) (by decide),Nat.le_trans (qa6 a2) (by decide)⟩)
   obtain ⟨z2,b2,hb2⟩:=qO9 R M
   have HB2:=lh_ hb2
   clear hcv hft hb2 I HWR HAP hu0 hik HPR
   have I:=lh_ (hp0 wr)
   refine wp_seq ?_
   have hlt9:¬ (k:Int)<(k:Int):=by omega
   refine ks4_ fun K O T Y=>?_
   iterate 4 refine tk ?_
   refine nlS Y I fun vw3 J=>?_
   clear Y T I
   go_wp2
   refine kO O ?_;clear O K
   have I:=J;clear J
   clear hlt9
   refine wp_cond_false (by rfl) ?_
   refine wp_exit ?_
   show Code.wp _ _ _ _ _
   have HB:=HPb I
   have su2a:wl R.natAbs≤20:=om
   have su2b:wl M≤20:=om
   refine ks5_ fun K O T Y=>?_
   refine tk ?_
   refine ck Tryz.call29 (fun w' hw=>qe7 _ n F R M (0) _ HCV.out (HFS.out.gr (Gr.trans HB.out hw)) om (HSZ.out)) ?_
   refine tk3_ ?_
   refine nlS Y I fun vw4 J=>?_
   clear Y T I HB
   go_wp2
   refine kF_ O ((J.out).aL (vw4.heap.size)) fun Wx12 I=>?_;clear O K
   clear J
   generalize vw4.heap.size=gx3 at *
   refine wp_seq ?_
   have lx3:=kc0_ I
   have lx2:=(BX2.out.gr I.out.1).cells
   refine qC6 fun K O T Y=>?_
   iterate 8 refine tk ?_
   refine ck Tryz.call33 (fun w' hw=>ql8 q R M true _ (decide_eq_true (HFT.out)) om om om) ?_
   refine tk2_ ?_
   refine nlS Y I fun vw5 J=>?_
   clear Y T I lx3 lx2
   go_wp2
   refine kO O ?_;clear O K
   have I:=J;clear J
   refine wp_cond_false (by rfl) ?_
   refine wp_skip ?_
   show Code.wp _ _ _ _ _
   have su3:sz z2≤20:=qj8 (HB2.out) om (by decide)
   have lx3:=kc0_ I
   refine ks8_ fun K O T Y=>?_
   iterate 4 refine tk ?_
   refine ck Tryz.call22 (fun w' hw=>qt3 R M z2 b2 _ (HB2.out) om om) ?_
   refine tk3_ ?_
   refine nlS Y I fun vw6 J=>?_
   clear Y T I lx3
   go_wp2
   refine kF_ O ((J.out).aL (vw6.heap.size)) fun Wx15 I=>?_;clear O K
   clear J
   generalize vw6.heap.size=gx4 at *
   by_cases hfar:rfar q M
   ·have HFA:=lh_ hfar
    obtain ⟨rfl,rfl⟩:q=z2∧true=b2:=by have e9:=qy1 HB2.out hfar HFT.out;exact ⟨e9.1.symm,e9.2.symm⟩
    clear hfar
    have HB:=HPb I
    have lx3:=kc0_ I
    have lx4:=kc1_ I
    have lx2:=(BX2.out.gr I.out.1).cells
    refine xx1 fun K O T Y=>?_
    refine tk3_ ?_
    refine ck Tryz.call34 (fun w' hw=>rFar q M true _ (decide_eq_true (HFA.out)) om om) ?_
    iterate 10 refine tk ?_
    refine ck Tryz.call27 (fun w' hw=>qa9 _ (lh_ (HT.out.gr (Gr.trans HB.out hw)))) ?_
    refine tk2_ ?_
    refine nlS Y I fun vw7 J=>?_
    clear Y T I lx3 lx4 lx2 HB
    go_wp2
    refine kF_ O (((J.out).er 1).er 0) fun Wx16 I=>?_;clear O K
    clear J
    refine wp_ret ?_
    try simp only [Exit.then,Exit.inBlock]
    exact bodyPost_ret (v:=.bool true) (by simp [results,Tryz.results10,go_sem]) rfl ⟨rfl,HBW.out.trans (I.out.1.mono HBW.out.size)⟩
   ·have HFA:=lh_ hfar
    clear hfar
    have HB:=HPb I
    have lx3:=kc0_ I
    have lx4:=kc1_ I
    have lx2:=(BX2.out.gr I.out.1).cells
    refine xx1 fun K O T Y=>?_
    refine tk3_ ?_
    refine ck Tryz.call34 (fun w' hw=>rFar q M false _ (decide_eq_false (HFA.out)) om om) ?_
    refine tk2_ ?_
    iterate 6 refine sk ?_
    refine tk2_ ?_
    refine ck Tryz.call27 (fun w' hw=>qa9 _ (lh_ (HT.out.gr (Gr.trans HB.out hw)))) ?_
    refine tk2_ ?_
    refine nlS Y I fun vw7 J=>?_
    clear Y T I lx3 lx4 lx2 HB
    go_wp2
    refine kF_ O (((J.out).er 1).er 0) fun Wx16 I=>?_;clear O K
    clear J
    refine wp_ret ?_
    try simp only [Exit.then,Exit.inBlock]
    exact bodyPost_ret (v:=.bool true) (by simp [results,Tryz.results10,go_sem]) rfl ⟨rfl,HBW.out.trans (I.out.1.mono HBW.out.size)⟩
  ·rcases HWA.out with ⟨_,_,_,hz⟩|⟨b9,o9,c',hv,hb,hc⟩
   ·omega
   injection hv with hv1 _ hv3
   subst hv1 hv3
   have hkn':i<k:=by omega
   obtain ⟨lw,HLW⟩:∃ x,Hid (fw i=x):=⟨_,lh_ rfl⟩
   have HE0:Hid (∀ w',Gr w w'→w'.cell? ⟨b9,o9+i,none⟩=some (.int .u32 ((lw:Nat):Int))):=lh_ (fun w' hw=>(Below.cell hw (p:=⟨b9,o9+i,none⟩) hb).trans (by rw [← HLW.out];exact hc i hkn'))
   clear hc hb
   have hkl:(i:Int)<(k:Int):=by omega
   have hwi:IntKind.i64.wrap ((i:Int)+1)=(i:Int)+1:=by rw [IntKind.wrap_i64];omega
   obtain ⟨p,HPT⟩:∃ x,Hid (ptab (lw % 13)=x):=⟨_,lh_ rfl⟩
   obtain ⟨hp,hp2⟩:0<p∧p<4294967296:=by rw [← HPT.out];exact xf0 _
   have hwp6:IntKind.u64.wrap ((p:Nat):Int)=((p:Nat):Int):=qe5 om
   obtain ⟨v,b,ho⟩:=xy1 q p hp
   have HOF:=lh_ ho
   cases b
   ·obtain rfl:v=0:=by rcases ho with ⟨h,_⟩|⟨_,h,_⟩; cases h;exact h
    clear ho
    refine wp_seq ?_
    refine kS fun K O=>?_
    go_wp2
    refine kO O ?_;clear O K
    refine wp_cond_true (by rfl) ?_
    refine wp_skip ?_
    show Code.wp _ _ _ _ _
    refine wp_seq ?_
    refine wp_block ?_
    refine kS fun K O=>?_
    have e0:=HE0.out wr I.out.1
    go_wp2_with fail
    refine (xj0 lw p wr HPT.out).mono ?_
    rintro e wa ⟨rfl,hb1⟩
    have HF1:=lh_ (I.out.gr hb1)
    have HR1:=lh_ (qe4 HWR.out hb1)
    clear hb1 e0 I HWR
    have I:=HF1
    have HWR:=HR1
    clear HF1 HR1
    go_wp2_with fail
    refine kO O ?_;clear O K
    refine kS fun K O=>?_
    have lx0:=kc0_ I
    have r0:=Gr.refl wa
    go_wp2_with fail
    refine (mof q p 0 false wa HOF.out hp hp2 om).mono ?_
    rintro e wb ⟨rfl,hb1⟩
    have HF1:=lh_ (I.out.gr hb1)
    have HR1:=lh_ (qe4 HWR.out hb1)
    clear hb1 lx0 r0 I HWR
    have I:=HF1
    have HWR:=HR1
    clear HF1 HR1
    go_wp2_with fail
    refine kO O ?_;clear O K
    refine kS fun K O=>?_
    go_wp2
    refine kO O ?_;clear O K
    refine wp_cond_false (by rfl) ?_
    refine wp_skip ?_
    show Code.wp _ _ _ _ _
    refine kL fun K O=>?_
    go_wp2
    refine O.out _ _ ?_;clear O K
    try simp only [Exit.then,Exit.inBlock]
    refine hj0_ _ _ ?_
    go_roundg kk
    case measure=>omega
    case rel=>exact ⟨i+1,n,F,rfl,by omega,by omega,hu0,HPR,I,HWR,HAP⟩
   ·have hvp:v<p:=by rcases ho with ⟨_,_,h,_⟩|⟨h,_⟩; exact h;cases h
    have HPR2:=lh_ (xp2 HPR.out hp hp2 ho)
    have hwv:IntKind.i64.wrap ((v:Nat):Int)=((v:Nat):Int):=qa7 om om
    clear ho
    refine wp_seq ?_
    refine kS fun K O=>?_
    go_wp2
    refine kO O ?_;clear O K
    refine wp_cond_true (by rfl) ?_
    refine wp_skip ?_
    show Code.wp _ _ _ _ _
    refine wp_seq ?_
    refine wp_block ?_
    refine kS fun K O=>?_
    have e0:=HE0.out wr I.out.1
    go_wp2_with fail
    refine (xj0 lw p wr HPT.out).mono ?_
    rintro e wa ⟨rfl,hb1⟩
    have HF1:=lh_ (I.out.gr hb1)
    have HR1:=lh_ (qe4 HWR.out hb1)
    clear hb1 e0 I HWR
    have I:=HF1
    have HWR:=HR1
    clear HF1 HR1
    go_wp2_with fail
    refine kO O ?_;clear O K
    refine kS fun K O=>?_
    have lx0:=kc0_ I
    have r0:=Gr.refl wa
    go_wp2_with fail
    refine (mof q p v true wa HOF.out hp hp2 om).mono ?_
    rintro e wb ⟨rfl,hb1⟩
    have HF1:=lh_ (I.out.gr hb1)
    have HR1:=lh_ (qe4 HWR.out hb1)
    clear hb1 lx0 r0 I HWR
    have I:=HF1
    have HWR:=HR1
    clear HF1 HR1
    go_wp2_with fail
    refine kO O ?_;clear O K
    refine kS fun K O=>?_
    go_wp2
    refine kO O ?_;clear O K
    refine wp_cond_true (by rfl) ?_
    refine kL fun K O=>?_
    go_wp2_with fail
    refine (qd3 ((v:Nat):Int) wb om om).mono ?_
    rintro e wc ⟨rfl,hb1⟩
    have HF1:=lh_ (I.out.gr hb1)
    have HR1:=lh_ (qe4 HWR.out hb1)
    clear hb1 I HWR
    go_wp2_with fail
    refine (nzof p wc om).mono ?_
    rintro e wd ⟨rfl,hb1⟩
    have I:=lh_ (HF1.out.gr hb1)
    have HWR:=lh_ (qe4 HR1.out hb1)
    clear hb1 HF1 HR1
    have HN:=lh_ (show ∀ j u,[.int .u64 (lo (Int.natAbs (((v:Nat):Int)))),.string (bg (Int.natAbs (((v:Nat):Int)))),.bool (decide ((((v:Nat):Int))<0)),.int .u64 (lo p),.string (bg p)][j]?=some u→(wd.alloc (.cells #[.int .u64 (lo (Int.natAbs (((v:Nat):Int)))),.string (bg (Int.natAbs (((v:Nat):Int)))),.bool (decide ((((v:Nat):Int))<0)),.int .u64 (lo p),.string (bg p)] 71)).cell? ((⟨wd.heap.size,0,none⟩:Addr).add j)=some u from fun j u hj=>by
     match j,hj with
     | 0,hj=>simp at hj;subst hj;simp [Addr.add,go_sem]
     | 1,hj=>simp at hj;subst hj;simp [Addr.add,go_sem]
     | 2,hj=>simp at hj;subst hj;simp [Addr.add,go_sem]
     | 3,hj=>simp at hj;subst hj;simp [Addr.add,go_sem]
     | 4,hj=>simp at hj;subst hj;simp [Addr.add,go_sem])
    have HF2:=lh_ (I.out.gr (Gr.alloc _ (.cells #[.int .u64 (lo (Int.natAbs (((v:Nat):Int)))),.string (bg (Int.natAbs (((v:Nat):Int)))),.bool (decide ((((v:Nat):Int))<0)),.int .u64 (lo p),.string (bg p)] 71)))
    have HW2:=lh_ (qe4 HWR.out (Gr.alloc _ (.cells #[.int .u64 (lo (Int.natAbs (((v:Nat):Int)))),.string (bg (Int.natAbs (((v:Nat):Int)))),.bool (decide ((((v:Nat):Int))<0)),.int .u64 (lo p),.string (bg p)] 71)))
    clear I HWR
    go_wp2_with (first|(at_builtin;refine apX HF2 HW2 HAP (.tmp 39) (.tmp 47) 67 hi hz0 hz1 hz2 rfl Tryz.underlying67 (m:=1) (c:=1) (ad:=⟨wd.heap.size,0,none⟩) (news:=[.int .u64 (lo (Int.natAbs (((v:Nat):Int)))),.string (bg (Int.natAbs (((v:Nat):Int)))),.bool (decide ((((v:Nat):Int))<0)),.int .u64 (lo p),.string (bg p)]) (by unfold maxLen;omega) om (by intro i v m h;rcases i with _|_|i <;> simp at h) (by simp [Act.eval,Act.put]) (by simp [Act.eval,Act.put]) HN rfl ?c1 (by decide) rfl rfl ?_)|fail)
    case c1=>intro u hu;simp at hu;rcases hu with rfl|rfl|rfl|rfl|rfl <;> rfl
    intro u' we HF3 HW3 HA3
    clear HF2 HW2 HAP HN
    have I:=HF3
    have HWR:=HW3
    have HAP:=HA3
    clear HF3 HW3 HA3
    go_wp2_with fail
    refine kO O ?_;clear O K
    refine kL fun K O=>?_
    go_wp2
    refine O.out _ _ ?_;clear O K
    try simp only [Exit.then,Exit.inBlock]
    refine hj0_ _ _ ?_
    go_roundg kk
    case measure=>omega
    case rel=>exact ⟨i+1,n+1,_,rfl,by omega,by omega,fun h=>by omega,HPR2,I,lh_ (by rw [xf4];exact HWR.out),HAP⟩
theorem qM1 (n0 d0:Int) (v:Value) (k:Nat) (fw:Nat→Nat) (w:World) (HWA:Hid (Wa w v k fw)) (hk:8<k) (HT:Hid (Tab w)) :
  Calls Tryz.prog 10 #[.agg #[.int .i64 n0,.int .u32 d0],v] w fun e w'=>e=.returned (.bool true)∧Below w.heap.size w w':=by
 obtain ⟨ao,c,rfl⟩:=HWA.out.slice
 have hn':(8:Int)<(k:Int):=by omega
 go_enter Tryz.func10,Tryz.ntmps10
 go_wp2_with fail
 refine (qa9 _ (lh_ (HT.out.gr ((Gr.refl w).trans (Gr.alloc _ _))))).mono ?_
 rintro e V1 ⟨rfl,hb⟩
 have HGf:=lh_ (((Below.refl w.heap.size w).alloc (Nat.le_refl _) _).trans (hb.mono (by simp)))
 clear hb
 go_wp2_with fail
 exact bodyPost_ret (v:=.bool true) (by simp [results,Tryz.results10,go_sem]) rfl ⟨rfl,HGf.out⟩
theorem qu5 (n0 d0:Int) (v:Value) (k:Nat) (fw:Nat→Nat) (w:World) (h1_0:-9223372036854775808≤n0) (h2_0:n0≤9223372036854775807) (h3_0:0≤d0) (h4_0:d0≤4294967295) (HWA:Hid (Wa w v k fw)) (HT:Hid (Tab w)) :
  Calls Tryz.prog 10 #[.agg #[.int .i64 n0,.int .u32 d0],v] w fun e w'=>e=.returned (.bool true)∧Below w.heap.size w w':=by
 by_cases hk:k≤8
 ·exact qD6 n0 d0 v k fw _ w h1_0 h2_0 h3_0 h4_0 HWA hk (lh_ rfl) (xB4 n0 d0 h1_0 h2_0 h3_0 h4_0) HT
 ·exact qM1 n0 d0 v k fw w HWA om HT
end Go.Proofs.YtobojnodohjiaaaGreatDoor
