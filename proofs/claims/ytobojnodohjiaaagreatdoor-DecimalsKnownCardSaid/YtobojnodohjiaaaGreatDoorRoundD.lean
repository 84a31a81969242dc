
/- DecimalsRounds: the law's walk. -/
import Derived.Test.YtobojnodohjiaaaGreatDoorOwnR
import Derived.Test.YtobojnodohjiaaaGreatDoorSgnP
import Derived.Test.YtobojnodohjiaaaGreatDoorPlanQ
set_option maxRecDepth 100000
set_option maxHeartbeats 16000000
set_option linter.unusedVariables false
set_option linter.unusedSimpArgs false
namespace Go.Proofs.YtobojnodohjiaaaGreatDoor
open Go.RowKit
attribute [local go_sem ↓] Go.wp_at_zero Go.wp_at_succ
attribute [local go_sem ↓] eq_nat eq_nat_zero eq_int qh7 qd0
attribute [local go_sem] Instr.field asAgg
theorem qJ6 (n d k:Int) (r:Nat) (a b c:Rat) (w:World) (h1:-9223372036854775808≤n) (h2:n≤9223372036854775807) (h3:0≤d) (h4:d≤4294967295) (k1:-32768≤k) (k2:k≤32767) (HR:Hid (Int.tmod d 200=(r:Int))) (hr:r≤199) (HA:Hid ((n:Rat) / (((r:Int)+1:Int):Rat)=a)) (hsa:sz a≤4) (HBB:Hid (a+((k:Int):Rat)=b)) (hsb:sz b≤8) (HNG:Hid (-a=c)) (HC0:Hid (cyc a.den=(0,0,3))) (HC1:Hid (cyc b.den=(0,0,3))) (HC2:Hid (cyc c.den=(0,0,3))) (HT:Hid (Tab w)) :
  CB 75 #[.agg #[.int .i64 n,.int .u32 d],.int .i16 k] w (.bool true):=by
 have hwr:IntKind.i64.wrap (r:Int)=(r:Int):=by rw [IntKind.wrap_i64];omega
 have hwk:IntKind.i64.wrap k=k:=by rw [IntKind.wrap_i64];omega
 go_enter Tryz.func75,Tryz.ntmps75
 have I:=lh_ (hp0 w)
 refine kSl fun K O=>?_;go_wp2
 refine kF_ O (al1_ I) fun Wx0 J=>?_;clear O K
 clear I;have I:=J;clear J
 have hrr:Int.tmod d 200=(r:Int):=HR.out
 have hwr1:IntKind.i64.wrap ((r:Int)+1)=(r:Int)+1:=by rw [IntKind.wrap_i64];omega
 have HZ1:Hid (((n:Int):Rat) / (((r:Int)+1:Int):Rat)=a):=lh_ (HA.out)
 have su1:sz a≤4:=by have e:=HZ1.out;first|omega|(rw [← e];exact qs2 n ((r:Int)+1) om om om om)
 have lx0:=kc0_ I
 refine qh4 fun K O T Y=>?_
 iterate 7 refine tk ?_
 refine ck Tryz.call104 (fun w' hw=>qB0 n ((r:Int)+1) a _ HZ1.out (by first|decide|omega) om om om om) ?_
 refine tk3_ ?_
 refine nlS Y I fun vw1 J=>?_
 clear Y T I lx0
 go_wp2
 refine kF_ O (((J.out).aL (vw1.heap.size)).er 0) fun Wx1 I=>?_;clear O K
 clear J
 generalize vw1.heap.size=gx2 at *
 clear hrr hwr1
 have lx2:=kc0_ I
 refine ks9_ fun K O T Y=>?_
 refine tk ?_
 refine ck Tryz.call67 (fun w' hw=>qf8 a (0) (0) (3) _ (HC0.out) om) ?_
 iterate 7 refine tk ?_
 refine nz Y I O ?_;clear Y T I lx2 O K;intro vw2 I
 obtain ⟨u2,HZ2⟩:=ex_ (((k:Int):Rat))
 have su2:sz u2≤2:=by rw [← HZ2.out];exact ql4 om om
 have HZ3:Hid (a+(u2)=b):=lh_ (by simp only [← HZ2.out];exact HBB.out)
 have su3:sz b≤8:=by have e:=HZ3.out;first|omega|(rw [← e];have:=qt5 a u2;omega)
 have lx2:=kc0_ I
 refine kS fun K O=>?_
 refine xI1 fun T Y=>?_
 refine tk3_ ?_
 refine ck Tryz.call147 (fun w' hw=>qb9 k u2 _ HZ2.out om om) ?_
 refine ck Tryz.call130 (fun w' hw=>ql0 a u2 b _ HZ3.out om om) ?_
 refine ck Tryz.call67 (fun w' hw=>qf8 b (0) (0) (3) _ (HC1.out) om) ?_
 iterate 6 refine tk ?_
 refine nlD Y I fun vw3 J=>?_
 clear Y T I lx2
 go_wp2
 refine kO O ?_;clear O K
 have I:=J;clear J
 have HZ4:Hid (-(a)=c):=lh_ (HNG.out)
 have su4:sz c≤4:=by have e:=HZ4.out;first|omega|(rw [← e];rw [qg7];omega)
 have lx2:=kc0_ I
 refine qy5 fun K O T Y=>?_
 refine tk ?_
 refine ck Tryz.call45 (fun w' hw=>qe5 a c _ HZ4.out) ?_
 refine ck Tryz.call67 (fun w' hw=>qf8 c (0) (0) (3) _ (HC2.out) om) ?_
 iterate 7 refine tk ?_
 refine nz Y I O ?_;clear Y T I lx2 O K;intro vw4 I
 refine wp_seq ?_
 refine xG4 fun K O T Y=>?_
 iterate 28 refine tk ?_
 refine nz Y I O ?_;clear Y T I O K;intro vw5 I
 refine wp_cond_false (by rfl) ?_
 refine wp_skip ?_
 show Code.wp _ _ _ _ _
 refine wp_seq ?_
 refine ks2_ fun K O T Y=>?_
 refine tk2_ ?_
 refine nz Y I O ?_;clear Y T I O K;intro vw6 I
 refine wp_cond_true (by rfl) ?_
 have HB:=HPb I
 refine qS_ fun K O T Y=>?_
 iterate 11 refine tk ?_
 refine ck Tryz.call64 (fun w' hw=>worksd_any _ (lh_ (HT.out.gr (Gr.trans HB.out hw)))) ?_
 refine tk2_ ?_
 refine nz Y I O ?_;clear Y T I HB O K;intro vw7 I
 refine wp_ret ?_
 try simp only [Exit.then,Exit.inBlock]
 exact bR ⟨rfl,I.out.1⟩ xh6
theorem qU4 (n d k:Int) (r:Nat) (a b c:Rat) (A L:Nat) (w:World) (h1:-9223372036854775808≤n) (h2:n≤9223372036854775807) (h3:0≤d) (h4:d≤4294967295) (k1:-32768≤k) (k2:k≤32767) (HR:Hid (Int.tmod d 200=(r:Int))) (hr:r≤199) (HA:Hid ((n:Rat) / (((r:Int)+1:Int):Rat)=a)) (hsa:sz a≤4) (HBB:Hid (a+((k:Int):Rat)=b)) (hsb:sz b≤8) (HNG:Hid (-a=c)) (HC0:Hid (cyc a.den=((A:Int),(L:Int),0))) (HC1:Hid (cyc b.den=((A:Int),(L:Int),0))) (HC2:Hid (cyc c.den=((A:Int),(L:Int),0))) (hA:A≤100) (hL:L≤100) (HW1:Hid (decide ((rwz a A L).den=1)=true)) (HW2:Hid (∀ B,A=B+1→decide ((rwz a B L).den=1)=false)) (HW3:Hid (∀ i,1≤i→i<L→decide ((rwz a A i).den=1)=false)) (HW4:Hid (¬ L=0→decide ((rwz a A 0).den=1)=false)) (HT:Hid (Tab w)) :
  CB 75 #[.agg #[.int .i64 n,.int .u32 d],.int .i16 k] w (.bool true):=by
 have hwr:IntKind.i64.wrap (r:Int)=(r:Int):=by rw [IntKind.wrap_i64];omega
 have hwk:IntKind.i64.wrap k=k:=by rw [IntKind.wrap_i64];omega
 go_enter Tryz.func75,Tryz.ntmps75
 have I:=lh_ (hp0 w)
 refine kSl fun K O=>?_;go_wp2
 refine kF_ O (al1_ I) fun Wx0 J=>?_;clear O K
 clear I;have I:=J;clear J
 have hrr:Int.tmod d 200=(r:Int):=HR.out
 have hwr1:IntKind.i64.wrap ((r:Int)+1)=(r:Int)+1:=by rw [IntKind.wrap_i64];omega
 have HZ1:Hid (((n:Int):Rat) / (((r:Int)+1:Int):Rat)=a):=lh_ (HA.out)
 have su1:sz a≤4:=by have e:=HZ1.out;first|omega|(rw [← e];exact qs2 n ((r:Int)+1) om om om om)
 have lx0:=kc0_ I
 refine qh4 fun K O T Y=>?_
 iterate 7 refine tk ?_
 refine ck Tryz.call104 (fun w' hw=>qB0 n ((r:Int)+1) a _ HZ1.out (by first|decide|omega) om om om om) ?_
 refine tk3_ ?_
 refine nlS Y I fun vw1 J=>?_
 clear Y T I lx0
 go_wp2
 refine kF_ O (((J.out).aL (vw1.heap.size)).er 0) fun Wx1 I=>?_;clear O K
 clear J
 generalize vw1.heap.size=gx2 at *
 clear hrr hwr1
 have lx2:=kc0_ I
 refine ks9_ fun K O T Y=>?_
 refine tk ?_
 refine ck Tryz.call67 (fun w' hw=>qf8 a ((A:Int)) ((L:Int)) (0) _ (HC0.out) om) ?_
 iterate 7 refine tk ?_
 refine nz Y I O ?_;clear Y T I lx2 O K;intro vw2 I
 obtain ⟨u2,HZ2⟩:=ex_ (((k:Int):Rat))
 have su2:sz u2≤2:=by rw [← HZ2.out];exact ql4 om om
 have HZ3:Hid (a+(u2)=b):=lh_ (by simp only [← HZ2.out];exact HBB.out)
 have su3:sz b≤8:=by have e:=HZ3.out;first|omega|(rw [← e];have:=qt5 a u2;omega)
 have lx2:=kc0_ I
 refine kS fun K O=>?_
 refine xI1 fun T Y=>?_
 refine tk3_ ?_
 refine ck Tryz.call147 (fun w' hw=>qb9 k u2 _ HZ2.out om om) ?_
 refine ck Tryz.call130 (fun w' hw=>ql0 a u2 b _ HZ3.out om om) ?_
 refine ck Tryz.call67 (fun w' hw=>qf8 b ((A:Int)) ((L:Int)) (0) _ (HC1.out) om) ?_
 iterate 6 refine tk ?_
 refine nlD Y I fun vw3 J=>?_
 clear Y T I lx2
 go_wp2
 refine kO O ?_;clear O K
 have I:=J;clear J
 have HZ4:Hid (-(a)=c):=lh_ (HNG.out)
 have su4:sz c≤4:=by have e:=HZ4.out;first|omega|(rw [← e];rw [qg7];omega)
 have lx2:=kc0_ I
 refine qy5 fun K O T Y=>?_
 refine tk ?_
 refine ck Tryz.call45 (fun w' hw=>qe5 a c _ HZ4.out) ?_
 refine ck Tryz.call67 (fun w' hw=>qf8 c ((A:Int)) ((L:Int)) (0) _ (HC2.out) om) ?_
 iterate 7 refine tk ?_
 refine nz Y I O ?_;clear Y T I lx2 O K;intro vw4 I
 refine wp_seq ?_
 refine xG4 fun K O T Y=>?_
 iterate 28 refine tk ?_
 refine nz Y I O ?_;clear Y T I O K;intro vw5 I
 refine wp_cond_false (by rfl) ?_
 refine wp_skip ?_
 show Code.wp _ _ _ _ _
 refine wp_seq ?_
 refine ks2_ fun K O T Y=>?_
 refine tk2_ ?_
 refine nz Y I O ?_;clear Y T I O K;intro vw6 I
 refine wp_cond_false (by rfl) ?_
 refine wp_skip ?_
 show Code.wp _ _ _ _ _
 refine wp_seq ?_
 rcases Nat.eq_zero_or_pos A with hA0|hA0
 ·have HA0:=lh_ hA0
  clear hA0
  have hga:¬ 0<A:=by have:=HA0.out;omega
  have lx2:=kc0_ I
  refine xb2 fun K O T Y=>?_
  refine tk3_ ?_
  refine ck Tryz.call184 (fun w' hw=>qk_ a A L true _ (HW1.out) om om om) ?_
  iterate 5 refine tk ?_
  iterate 5 refine sk ?_
  refine tk2_ ?_
  refine nz Y I O ?_;clear Y T I lx2 O K;intro vw7 I
  clear hga
  refine wp_cond_false (by rfl) ?_
  refine wp_skip ?_
  show Code.wp _ _ _ _ _
  refine wp_seq ?_
  refine kSl fun K O=>?_;go_wp2
  refine kF_ O (I.out) fun Wx11 J=>?_;clear O K
  clear I;have I:=J;clear J
  refine wp_block ?_
  go_loopg [16] L (fun k iv wr=>∃ i:Nat,iv=.int .i64 (i:Int)∧1≤i∧i+k=L+1∧Hid (HP w wr [Sum.inl (gx2,36,#[.int .u64 (lo a.num.natAbs),.string (bg a.num.natAbs),.bool (a.num<0),.int .u64 (lo (a.den - 1)),.string (bg (a.den - 1))])]))
  case atStart=>exact ⟨1,rfl,Nat.le_refl _,by omega,I⟩
  case round =>
   rename_i J_ K_ hj1_ hj0_
   clear I
   obtain ⟨i,rfl,hi1,hik,I⟩:=hrel
   by_cases hiL:i<L
   ·have HI:=lh_ hiL
    clear hiL
    refine wp_seq ?_
    have hil:(i:Int)<(L:Int):=by have:=HI.out;omega
    refine ks3_ fun K O T Y=>?_
    refine tk3_ ?_
    refine nz Y I O ?_;clear Y T I O K;intro vw8 I
    clear hil
    refine wp_cond_true (by rfl) ?_
    refine wp_skip ?_
    show Code.wp _ _ _ _ _
    refine wp_seq ?_
    refine wp_block ?_
    have lx2:=kc0_ I
    refine ks4_ fun K O T Y=>?_
    refine tk3_ ?_
    refine ck Tryz.call184 (fun w' hw=>qk_ a A i false _ (HW3.out i hi1 HI.out) om om om) ?_
    refine nz Y I O ?_;clear Y T I lx2 O K;intro vw9 I
    refine wp_cond_false (by rfl) ?_
    refine wp_skip ?_
    show Code.wp _ _ _ _ _
    have hwi:IntKind.i64.wrap ((i:Int)+1)=(i:Int)+1:=by rw [IntKind.wrap_i64];omega
    refine kL fun K O=>?_
    refine sq3_ fun T Y=>?_
    refine tk3_ ?_
    refine nlS Y I fun vw10 J=>?_
    clear Y T I
    go_wp2
    refine O.out _ _ ?_;clear O K
    try simp only [Exit.then,Exit.inBlock]
    have I:=lh_ (J.out);clear J
    clear hwi
    refine hj0_ _ _ ?_
    go_roundg (gk - 1)
    case measure=>have:=HI.out;omega
    case rel=>exact ⟨i+1,rfl,by omega,by have:=HI.out;omega,lh_ (I.out)⟩
   have HI:=lh_ hiL
   clear hiL
   refine wp_seq ?_
   have hil:¬ (i:Int)<(L:Int):=by have:=HI.out;omega
   refine ks3_ fun K O T Y=>?_
   refine tk3_ ?_
   refine nz Y I O ?_;clear Y T I O K;intro vw8 I
   clear hil
   refine wp_cond_false (by rfl) ?_
   refine wp_exit ?_
   show Code.wp _ _ _ _ _
   by_cases hL0:L=0
   ·have HL0:=lh_ hL0
    clear hL0
    have HB:=HPb I
    have hlz:((L:Int) == 0)=true:=by have h9:=HL0.out;simp [h9]
    have lx2:=kc0_ I
    refine qw4 fun K O T Y=>?_
    refine tk3_ ?_
    iterate 4 refine sk ?_
    refine tk2_ ?_
    refine ck Tryz.call64 (fun w' hw=>worksd_any _ (lh_ (HT.out.gr (Gr.trans HB.out hw)))) ?_
    refine tk2_ ?_
    refine nzR Y O (fun w2 hg=>(I.out.gr hg).er 0) ?_;clear Y T I lx2 HB O K;intro Wx16 I
    clear hlz
    refine wp_ret ?_
    try simp only [Exit.then,Exit.inBlock]
    exact bR ⟨rfl,I.out.1⟩ xh6
   have HL0:=lh_ hL0
   clear hL0
   have HB:=HPb I
   have hlz:((L:Int) == 0)=false:=by have h9:¬ ((L:Int)=0):=(by have:=HL0.out;omega);simpa using h9
   have lx2:=kc0_ I
   refine qw4 fun K O T Y=>?_
   iterate 5 refine tk ?_
   refine ck Tryz.call184 (fun w' hw=>qk_ a A 0 false _ (HW4.out HL0.out) om om om) ?_
   refine tk3_ ?_
   refine ck Tryz.call64 (fun w' hw=>worksd_any _ (lh_ (HT.out.gr (Gr.trans HB.out hw)))) ?_
   refine tk2_ ?_
   refine nzR Y O (fun w2 hg=>(I.out.gr hg).er 0) ?_;clear Y T I lx2 HB O K;intro Wx16 I
   clear hlz
   refine wp_ret ?_
   try simp only [Exit.then,Exit.inBlock]
   exact bR ⟨rfl,I.out.1⟩ xh6
 obtain ⟨B,hB⟩:∃ B,A=B+1:=⟨A - 1,by omega⟩
 have HA0:=lh_ hB
 have hBL:B≤100:=by omega
 clear hA0 hB
 have hga:0<A:=by have:=HA0.out;omega
 have hwb:IntKind.i64.wrap ((A:Int) - 1)=(B:Int):=by have:=HA0.out;rw [IntKind.wrap_i64];omega
 have lx2:=kc0_ I
 refine xb2 fun K O T Y=>?_
 refine tk3_ ?_
 refine ck Tryz.call184 (fun w' hw=>qk_ a A L true _ (HW1.out) om om om) ?_
 iterate 9 refine tk ?_
 refine ck Tryz.call184 (fun w' hw=>qk_ a B L false _ (HW2.out _ HA0.out) om om om) ?_
 refine tk2_ ?_
 refine nz Y I O ?_;clear Y T I lx2 O K;intro vw7 I
 clear hga hwb
 refine wp_cond_false (by rfl) ?_
 refine wp_skip ?_
 show Code.wp _ _ _ _ _
 refine wp_seq ?_
 refine kSl fun K O=>?_;go_wp2
 refine kF_ O (I.out) fun Wx11 J=>?_;clear O K
 clear I;have I:=J;clear J
 refine wp_block ?_
 go_loopg [16] L (fun k iv wr=>∃ i:Nat,iv=.int .i64 (i:Int)∧1≤i∧i+k=L+1∧Hid (HP w wr [Sum.inl (gx2,36,#[.int .u64 (lo a.num.natAbs),.string (bg a.num.natAbs),.bool (a.num<0),.int .u64 (lo (a.den - 1)),.string (bg (a.den - 1))])]))
 case atStart=>exact ⟨1,rfl,Nat.le_refl _,by omega,I⟩
 case round =>
  rename_i J_ K_ hj1_ hj0_
  clear I
  obtain ⟨i,rfl,hi1,hik,I⟩:=hrel
  by_cases hiL:i<L
  ·have HI:=lh_ hiL
   clear hiL
   refine wp_seq ?_
   have hil:(i:Int)<(L:Int):=by have:=HI.out;omega
   refine ks3_ fun K O T Y=>?_
   refine tk3_ ?_
   refine nz Y I O ?_;clear Y T I O K;intro vw8 I
   clear hil
   refine wp_cond_true (by rfl) ?_
   refine wp_skip ?_
   show Code.wp _ _ _ _ _
   refine wp_seq ?_
   refine wp_block ?_
   have lx2:=kc0_ I
   refine ks4_ fun K O T Y=>?_
   refine tk3_ ?_
   refine ck Tryz.call184 (fun w' hw=>qk_ a A i false _ (HW3.out i hi1 HI.out) om om om) ?_
   refine nz Y I O ?_;clear Y T I lx2 O K;intro vw9 I
   refine wp_cond_false (by rfl) ?_
   refine wp_skip ?_
   show Code.wp _ _ _ _ _
   have hwi:IntKind.i64.wrap ((i:Int)+1)=(i:Int)+1:=by rw [IntKind.wrap_i64];omega
   refine kL fun K O=>?_
   refine sq3_ fun T Y=>?_
   refine tk3_ ?_
   refine nlS Y I fun vw10 J=>?_
   clear Y T I
   go_wp2
   refine O.out _ _ ?_;clear O K
   try simp only [Exit.then,Exit.inBlock]
   have I:=lh_ (J.out);clear J
   clear hwi
   refine hj0_ _ _ ?_
   go_roundg (gk - 1)
   case measure=>have:=HI.out;omega
   case rel=>exact ⟨i+1,rfl,by omega,by have:=HI.out;omega,lh_ (I.out)⟩
  have HI:=lh_ hiL
  clear hiL
  refine wp_seq ?_
  have hil:¬ (i:Int)<(L:Int):=by have:=HI.out;omega
  refine ks3_ fun K O T Y=>?_
  refine tk3_ ?_
  refine nz Y I O ?_;clear Y T I O K;intro vw8 I
  clear hil
  refine wp_cond_false (by rfl) ?_
  refine wp_exit ?_
  show Code.wp _ _ _ _ _
  by_cases hL0:L=0
  ·have HL0:=lh_ hL0
   clear hL0
   have HB:=HPb I
   have hlz:((L:Int) == 0)=true:=by have h9:=HL0.out;simp [h9]
   have lx2:=kc0_ I
   refine qw4 fun K O T Y=>?_
   refine tk3_ ?_
   iterate 4 refine sk ?_
   refine tk2_ ?_
   refine ck Tryz.call64 (fun w' hw=>worksd_any _ (lh_ (HT.out.gr (Gr.trans HB.out hw)))) ?_
   refine tk2_ ?_
   refine nzR Y O (fun w2 hg=>(I.out.gr hg).er 0) ?_;clear Y T I lx2 HB O K;intro Wx16 I
   clear hlz
   refine wp_ret ?_
   try simp only [Exit.then,Exit.inBlock]
   exact bR ⟨rfl,I.out.1⟩ xh6
  have HL0:=lh_ hL0
  clear hL0
  have HB:=HPb I
  have hlz:((L:Int) == 0)=false:=by have h9:¬ ((L:Int)=0):=(by have:=HL0.out;omega);simpa using h9
  have lx2:=kc0_ I
  refine qw4 fun K O T Y=>?_
  iterate 5 refine tk ?_
  refine ck Tryz.call184 (fun w' hw=>qk_ a A 0 false _ (HW4.out HL0.out) om om om) ?_
  refine tk3_ ?_
  refine ck Tryz.call64 (fun w' hw=>worksd_any _ (lh_ (HT.out.gr (Gr.trans HB.out hw)))) ?_
  refine tk2_ ?_
  refine nzR Y O (fun w2 hg=>(I.out.gr hg).er 0) ?_;clear Y T I lx2 HB O K;intro Wx16 I
  clear hlz
  refine wp_ret ?_
  try simp only [Exit.then,Exit.inBlock]
  exact bR ⟨rfl,I.out.1⟩ xh6
theorem rounds_law (n d k:Int) (w:World) (h1:-9223372036854775808≤n) (h2:n≤9223372036854775807) (h3:0≤d) (h4:d≤4294967295) (k1:-32768≤k) (k2:k≤32767) (HT:Hid (Tab w)) :
  CB 75 #[.agg #[.int .i64 n,.int .u32 d],.int .i16 k] w (.bool true):=by
 obtain ⟨r,hr,hr2⟩:∃ r:Nat,Int.tmod d 200=(r:Int)∧r≤199:=⟨(d % 200).toNat,by rw [Int.tmod_eq_emod_of_nonneg h3];omega,by omega⟩
 have hsa:sz ((n:Rat) / (((r:Int)+1:Int):Rat))≤4:=qs2 n ((r:Int)+1) h1 h2 om om
 obtain ⟨a,ha⟩:∃ a,(n:Rat) / (((r:Int)+1:Int):Rat)=a:=⟨_,rfl⟩
 rw [ha] at hsa
 have hsb:sz (a+((k:Int):Rat))≤8:=by have e1:=qt5 a ((k:Int):Rat);have e2:=ql4 (n:=k) om om;omega
 rcases qY3 a.den with ⟨hc,_⟩|⟨hc,hl⟩
 ·exact qJ6 n d k r a _ _ w h1 h2 h3 h4 k1 k2 (lh_ hr) hr2 (lh_ ha) hsa (lh_ rfl) hsb (lh_ rfl) (lh_ hc) (lh_ (by rw [qM2];exact hc)) (lh_ (by rw [Rat.neg_den];exact hc)) HT
 exact qU4 n d k r a _ _ (cya a.den) (cyl a.den) w h1 h2 h3 h4 k1 k2 (lh_ hr) hr2 (lh_ ha) hsa (lh_ rfl) hsb (lh_ rfl) (lh_ hc) (lh_ (by rw [qM2];exact hc)) (lh_ (by rw [Rat.neg_den];exact hc)) om om
  (lh_ (decide_eq_true ((qC5 _ _ _).2 (xi9 a.den_pos hl)))) (lh_ (fun B hB=>decide_eq_false (fun h=>xO8 a.den_pos hl hB ((qC5 _ _ _).1 h)))) (lh_ (fun i hi hj=>decide_eq_false (fun h=>xO9 a.den_pos hl om hj ((qC5 _ _ _).1 h)))) (lh_ (fun h0=>decide_eq_false (fun h=>xO_ a.den_pos hl h0 ((qC5 _ _ _).1 h)))) HT
end Go.Proofs.YtobojnodohjiaaaGreatDoor
