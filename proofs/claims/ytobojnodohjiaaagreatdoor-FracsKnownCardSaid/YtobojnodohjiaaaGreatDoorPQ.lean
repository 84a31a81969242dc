/- A pack of texts: IntParse, IntParse2, ParseZ. No condition but those stated. -/
import Derived.Test.YtobojnodohjiaaaGreatDoorGreatP
import Derived.Test.YtobojnodohjiaaaGreatDoorIntE
import Derived.Test.YtobojnodohjiaaaGreatDoorShelf
import Derived.Test.YtobojnodohjiaaaGreatDoorPJ
import Derived.Test.YtobojnodohjiaaaGreatDoorHp
set_option maxRecDepth 100000
set_option maxHeartbeats 16000000
set_option linter.unusedVariables false
set_option linter.unusedSimpArgs false
namespace Go.Proofs.YtobojnodohjiaaaGreatDoor
section
open Go.RowKit
theorem xf1 (s p:ByteArray) (w:World) :
  Calls Tryz.prog 235 #[.string s,.string p] w fun e w'=>e=.returned (.tuple #[.string ⟨(Lib.trimPrefix s.data.toList p.data.toList).toArray⟩,.bool (Lib.hasPrefix s.data.toList p.data.toList)])∧w'=w:=by
 by_cases h:Lib.hasPrefix s.data.toList p.data.toList=true
 ·have h0:=h
  rw [← Lib.hasPrefix_raw,Bool.and_eq_true,decide_eq_true_eq] at h0
  obtain ⟨h1,h2⟩:=h0
  rw [Lib.trimPrefix_hit s p h1 h2,h]
  have HP:=lh_ h
  clear h h2
  go_enter Tryz.func235,Tryz.ntmps235
  go_wp2_with fail
  refine (Tryz.stringslite_HasPrefix s p w).mono ?_
  rintro e w1 ⟨rfl,rfl⟩
  rw [HP.out]
  go_wp2
  go_ret2
  exact ⟨rfl,rfl⟩
 have h0:Lib.hasPrefix s.data.toList p.data.toList=false:=by simpa using h
 rw [Lib.trimPrefix_miss s p (by rw [Lib.hasPrefix_raw,h0]),h0]
 have HP:=lh_ h0
 clear h h0
 go_enter Tryz.func235,Tryz.ntmps235
 go_wp2_with fail
 refine (Tryz.stringslite_HasPrefix s p w).mono ?_
 rintro e w1 ⟨rfl,rfl⟩
 rw [HP.out]
 go_wp2
 go_ret2
 exact ⟨rfl,rfl⟩
theorem qQ_ (s:ByteArray) (w:World) :
  Calls Tryz.prog 161 #[.string s,.string ⟨#[45]⟩] w fun e w'=>e=.returned (.tuple #[.string (idig s),.bool (ineg s)])∧w'=w:=by
 go_enter Tryz.func161,Tryz.ntmps161
 go_wp2_with fail
 refine (xf1 s _ w).mono ?_
 rintro e w1 ⟨rfl,rfl⟩
 go_wp2
 go_ret2
 exact ⟨rfl,rfl⟩
end
section
open Go.RowKit
attribute [local go_sem ↓] Go.wp_at_zero Go.wp_at_succ
attribute [local go_sem ↓] eq_nat eq_nat_zero eq_int
theorem cutm (s:ByteArray) (b:Bool) (w:World) (hb:ineg s=b) :
  CB 161 #[.string s,.string ⟨#[45]⟩] w (.tuple #[.string (idig s),.bool b]):=hb ▸ (qQ_ s w).mono fun e w' ⟨h,hw⟩=>⟨h,by rw [hw];exact Below.refl _ _⟩
theorem qW1 (s:ByteArray) (L:Nat) (hL:L=4096):pnum s<10 ^ L:=by
 unfold pnum
 split
 ·rename_i h
  obtain ⟨h1,h2,h3,h4⟩:=h
  rw [xx0]
  have:=xC2 s.data.toList (fun c hc=>by
   obtain ⟨i,hi,rfl⟩:=List.getElem_of_mem hc
   have hi':i<s.size:=by simpa using hi
   rw [← qk1 s i hi']
   exact (h4 i hi').2)
  refine Nat.lt_of_lt_of_le this (Nat.pow_le_pow_right (by decide) ?_)
  rw [Array.length_toList,hL]
  exact h1
 exact Nat.pow_pos (by decide)
theorem xy1 (k:Nat):(10:Nat) ^ (4*k)=tp k:=Nat.pow_mul 10 4 k
theorem xy0 (k:Nat):(10:Nat) ^ (8*k)≤bp k:=by
 unfold bp
 rw [Nat.pow_mul]
 exact Nat.pow_le_pow_left (by decide) k
theorem qE0 (s:ByteArray) (k:Nat) (h:4*k=4096):pnum s<tp k:=by rw [← xy1 k];exact qW1 s _ h
theorem qD_ (s:ByteArray) (k:Nat) (h:8*k=4096):pnum s<bp k:=Nat.lt_of_lt_of_le (qW1 s _ h) (xy0 k)
theorem qT9 (s:ByteArray) (w:World) (hsz:(idig s).size≤9223372036854775807) (HNG:Hid (ineg s=true)) (HPC:Hid (qb8 (idig s)=3)) (HPN:Hid (pnum (idig s)=0)) :
  CB 222 #[.string s] w (.tuple #[(.agg #[.int .u64 (lo (Int.natAbs (0))),.string (bg (Int.natAbs (0))),.bool (decide ((0)<0))]),.int .i64 3]):=by
 go_enter Tryz.func222,Tryz.ntmps222
 have I:=lh_ (hp0 w)
 refine kSl fun K O=>?_;go_wp2
 refine kF_ O (al1_ I) fun Wx0 J=>?_;clear O K
 clear I;have I:=J;clear J
 refine ks7_ fun K O T Y=>?_
 refine tk ?_
 refine ck Tryz.call161 (fun w' hw=>cutm s true _ HNG.out) ?_
 iterate 5 refine tk ?_
 refine nz Y I O ?_;clear Y T I O K;intro vw1 I
 refine ks5_ fun K O T Y=>?_
 refine tk ?_
 refine ck Tryz.call163 (fun w' hw=>qh3 (idig s) 0 3 _ HPN.out HPC.out om) ?_
 refine tk3_ ?_
 refine nlS Y I fun vw2 J=>?_
 clear Y T I
 go_wp2
 refine kF_ O ((J.out).aL (vw2.heap.size)) fun Wx2 I=>?_;clear O K
 clear J
 generalize vw2.heap.size=gx2 at *
 have HZ1:Hid ((if true then -((0:Nat):Int) else ((0:Nat):Int))=0):=lh_ ok
 have su1:wl (Int.natAbs (0))≤0:=by have e:=HZ1.out;first|omega|(rw [← e];split <;> simp <;> omega)|exact wl_le.2 (by decide +kernel)
 have lx2:=kc1_ I
 refine ks3_ fun K O T Y=>?_
 refine tk2_ ?_
 refine ck Tryz.call37 (fun w' hw=>qa7 true (0) (0) _ HZ1.out) ?_
 refine nlS Y I fun vw3 J=>?_
 clear Y T I lx2
 go_wp2
 refine kF_ O (((J.out).aL (vw3.heap.size)).er 1) fun Wx3 I=>?_;clear O K
 clear J
 generalize vw3.heap.size=gx3 at *
 refine wp_seq ?_
 refine wp_block ?_
 refine ks3_ fun K O T Y=>?_
 refine tk3_ ?_
 refine nz Y I O ?_;clear Y T I O K;intro vw4 I
 refine wp_cond_true (by rfl) ?_
 refine ks2_ fun K O T Y=>?_
 refine tk2_ ?_
 refine nlS Y I fun vw5 J=>?_
 clear Y T I
 have lx0:=kc0_ J;have fx0:=kf0_ J
 have r0:=Gr.refl vw5
 go_wp2
 refine kO O ?_;clear O K
 clear r0 lx0 fx0
 refine fH (((J.out).put2 0 0 rfl).put 0 2 _ rfl) fun Wx5 I=>?_
 clear J
 refine wp_ret ?_
 try simp only [Exit.then,Exit.inBlock]
 have lx0:=kc0_ I
 have r0:=Gr.refl Wx5
 exact bodyPost_ret (v:=.tuple #[(.agg #[.int .u64 0,.string ⟨#[]⟩,.bool false]),.int .i64 3]) qG5 rfl ⟨rfl,I.out.1⟩
theorem qT_ (s:ByteArray) (w:World) (hsz:(idig s).size≤9223372036854775807) (HNG:Hid (ineg s=true)) (HPC:Hid (qb8 (idig s)=4)) (HPN:Hid (pnum (idig s)=0)) :
  CB 222 #[.string s] w (.tuple #[(.agg #[.int .u64 (lo (Int.natAbs (0))),.string (bg (Int.natAbs (0))),.bool (decide ((0)<0))]),.int .i64 4]):=by
 go_enter Tryz.func222,Tryz.ntmps222
 have I:=lh_ (hp0 w)
 refine kSl fun K O=>?_;go_wp2
 refine kF_ O (al1_ I) fun Wx0 J=>?_;clear O K
 clear I;have I:=J;clear J
 refine ks7_ fun K O T Y=>?_
 refine tk ?_
 refine ck Tryz.call161 (fun w' hw=>cutm s true _ HNG.out) ?_
 iterate 5 refine tk ?_
 refine nz Y I O ?_;clear Y T I O K;intro vw1 I
 refine ks5_ fun K O T Y=>?_
 refine tk ?_
 refine ck Tryz.call163 (fun w' hw=>qh3 (idig s) 0 4 _ HPN.out HPC.out om) ?_
 refine tk3_ ?_
 refine nlS Y I fun vw2 J=>?_
 clear Y T I
 go_wp2
 refine kF_ O ((J.out).aL (vw2.heap.size)) fun Wx2 I=>?_;clear O K
 clear J
 generalize vw2.heap.size=gx2 at *
 have HZ1:Hid ((if true then -((0:Nat):Int) else ((0:Nat):Int))=0):=lh_ ok
 have su1:wl (Int.natAbs (0))≤0:=by have e:=HZ1.out;first|omega|(rw [← e];split <;> simp <;> omega)|exact wl_le.2 (by decide +kernel)
 have lx2:=kc1_ I
 refine ks3_ fun K O T Y=>?_
 refine tk2_ ?_
 refine ck Tryz.call37 (fun w' hw=>qa7 true (0) (0) _ HZ1.out) ?_
 refine nlS Y I fun vw3 J=>?_
 clear Y T I lx2
 go_wp2
 refine kF_ O (((J.out).aL (vw3.heap.size)).er 1) fun Wx3 I=>?_;clear O K
 clear J
 generalize vw3.heap.size=gx3 at *
 refine wp_seq ?_
 refine wp_block ?_
 refine ks3_ fun K O T Y=>?_
 refine tk3_ ?_
 refine nz Y I O ?_;clear Y T I O K;intro vw4 I
 refine wp_cond_true (by rfl) ?_
 refine ks2_ fun K O T Y=>?_
 refine tk2_ ?_
 refine nlS Y I fun vw5 J=>?_
 clear Y T I
 have lx0:=kc0_ J;have fx0:=kf0_ J
 have r0:=Gr.refl vw5
 go_wp2
 refine kO O ?_;clear O K
 clear r0 lx0 fx0
 refine fH (((J.out).put2 0 0 rfl).put 0 2 _ rfl) fun Wx5 I=>?_
 clear J
 refine wp_ret ?_
 try simp only [Exit.then,Exit.inBlock]
 have lx0:=kc0_ I
 have r0:=Gr.refl Wx5
 exact bodyPost_ret (v:=.tuple #[(.agg #[.int .u64 0,.string ⟨#[]⟩,.bool false]),.int .i64 4]) qG5 rfl ⟨rfl,I.out.1⟩
theorem qL9 (s:ByteArray) (w:World) (hsz:(idig s).size≤9223372036854775807) (HNG:Hid (ineg s=false)) (HPC:Hid (qb8 (idig s)=3)) (HPN:Hid (pnum (idig s)=0)) :
  CB 222 #[.string s] w (.tuple #[(.agg #[.int .u64 (lo (Int.natAbs (0))),.string (bg (Int.natAbs (0))),.bool (decide ((0)<0))]),.int .i64 3]):=by
 go_enter Tryz.func222,Tryz.ntmps222
 have I:=lh_ (hp0 w)
 refine kSl fun K O=>?_;go_wp2
 refine kF_ O (al1_ I) fun Wx0 J=>?_;clear O K
 clear I;have I:=J;clear J
 refine ks7_ fun K O T Y=>?_
 refine tk ?_
 refine ck Tryz.call161 (fun w' hw=>cutm s false _ HNG.out) ?_
 iterate 5 refine tk ?_
 refine nz Y I O ?_;clear Y T I O K;intro vw1 I
 refine ks5_ fun K O T Y=>?_
 refine tk ?_
 refine ck Tryz.call163 (fun w' hw=>qh3 (idig s) 0 3 _ HPN.out HPC.out om) ?_
 refine tk3_ ?_
 refine nlS Y I fun vw2 J=>?_
 clear Y T I
 go_wp2
 refine kF_ O ((J.out).aL (vw2.heap.size)) fun Wx2 I=>?_;clear O K
 clear J
 generalize vw2.heap.size=gx2 at *
 have HZ1:Hid ((if false then -((0:Nat):Int) else ((0:Nat):Int))=0):=lh_ ok
 have su1:wl (Int.natAbs (0))≤0:=by have e:=HZ1.out;first|omega|(rw [← e];split <;> simp <;> omega)|exact wl_le.2 (by decide +kernel)
 have lx2:=kc1_ I
 refine ks3_ fun K O T Y=>?_
 refine tk2_ ?_
 refine ck Tryz.call37 (fun w' hw=>qa7 false (0) (0) _ HZ1.out) ?_
 refine nlS Y I fun vw3 J=>?_
 clear Y T I lx2
 go_wp2
 refine kF_ O (((J.out).aL (vw3.heap.size)).er 1) fun Wx3 I=>?_;clear O K
 clear J
 generalize vw3.heap.size=gx3 at *
 refine wp_seq ?_
 refine wp_block ?_
 refine ks3_ fun K O T Y=>?_
 refine tk3_ ?_
 refine nz Y I O ?_;clear Y T I O K;intro vw4 I
 refine wp_cond_true (by rfl) ?_
 refine ks2_ fun K O T Y=>?_
 refine tk2_ ?_
 refine nlS Y I fun vw5 J=>?_
 clear Y T I
 have lx0:=kc0_ J;have fx0:=kf0_ J
 have r0:=Gr.refl vw5
 go_wp2
 refine kO O ?_;clear O K
 clear r0 lx0 fx0
 refine fH (((J.out).put2 0 0 rfl).put 0 2 _ rfl) fun Wx5 I=>?_
 clear J
 refine wp_ret ?_
 try simp only [Exit.then,Exit.inBlock]
 have lx0:=kc0_ I
 have r0:=Gr.refl Wx5
 exact bodyPost_ret (v:=.tuple #[(.agg #[.int .u64 0,.string ⟨#[]⟩,.bool false]),.int .i64 3]) qG5 rfl ⟨rfl,I.out.1⟩
theorem qL_ (s:ByteArray) (w:World) (hsz:(idig s).size≤9223372036854775807) (HNG:Hid (ineg s=false)) (HPC:Hid (qb8 (idig s)=4)) (HPN:Hid (pnum (idig s)=0)) :
  CB 222 #[.string s] w (.tuple #[(.agg #[.int .u64 (lo (Int.natAbs (0))),.string (bg (Int.natAbs (0))),.bool (decide ((0)<0))]),.int .i64 4]):=by
 go_enter Tryz.func222,Tryz.ntmps222
 have I:=lh_ (hp0 w)
 refine kSl fun K O=>?_;go_wp2
 refine kF_ O (al1_ I) fun Wx0 J=>?_;clear O K
 clear I;have I:=J;clear J
 refine ks7_ fun K O T Y=>?_
 refine tk ?_
 refine ck Tryz.call161 (fun w' hw=>cutm s false _ HNG.out) ?_
 iterate 5 refine tk ?_
 refine nz Y I O ?_;clear Y T I O K;intro vw1 I
 refine ks5_ fun K O T Y=>?_
 refine tk ?_
 refine ck Tryz.call163 (fun w' hw=>qh3 (idig s) 0 4 _ HPN.out HPC.out om) ?_
 refine tk3_ ?_
 refine nlS Y I fun vw2 J=>?_
 clear Y T I
 go_wp2
 refine kF_ O ((J.out).aL (vw2.heap.size)) fun Wx2 I=>?_;clear O K
 clear J
 generalize vw2.heap.size=gx2 at *
 have HZ1:Hid ((if false then -((0:Nat):Int) else ((0:Nat):Int))=0):=lh_ ok
 have su1:wl (Int.natAbs (0))≤0:=by have e:=HZ1.out;first|omega|(rw [← e];split <;> simp <;> omega)|exact wl_le.2 (by decide +kernel)
 have lx2:=kc1_ I
 refine ks3_ fun K O T Y=>?_
 refine tk2_ ?_
 refine ck Tryz.call37 (fun w' hw=>qa7 false (0) (0) _ HZ1.out) ?_
 refine nlS Y I fun vw3 J=>?_
 clear Y T I lx2
 go_wp2
 refine kF_ O (((J.out).aL (vw3.heap.size)).er 1) fun Wx3 I=>?_;clear O K
 clear J
 generalize vw3.heap.size=gx3 at *
 refine wp_seq ?_
 refine wp_block ?_
 refine ks3_ fun K O T Y=>?_
 refine tk3_ ?_
 refine nz Y I O ?_;clear Y T I O K;intro vw4 I
 refine wp_cond_true (by rfl) ?_
 refine ks2_ fun K O T Y=>?_
 refine tk2_ ?_
 refine nlS Y I fun vw5 J=>?_
 clear Y T I
 have lx0:=kc0_ J;have fx0:=kf0_ J
 have r0:=Gr.refl vw5
 go_wp2
 refine kO O ?_;clear O K
 clear r0 lx0 fx0
 refine fH (((J.out).put2 0 0 rfl).put 0 2 _ rfl) fun Wx5 I=>?_
 clear J
 refine wp_ret ?_
 try simp only [Exit.then,Exit.inBlock]
 have lx0:=kc0_ I
 have r0:=Gr.refl Wx5
 exact bodyPost_ret (v:=.tuple #[(.agg #[.int .u64 0,.string ⟨#[]⟩,.bool false]),.int .i64 4]) qG5 rfl ⟨rfl,I.out.1⟩
theorem qU1 (s:ByteArray) (w:World) (hsz:(idig s).size≤9223372036854775807) (HNG:Hid (ineg s=true)) (HPC:Hid (qb8 (idig s)=0)) (HPN:Hid (pnum (idig s)=0)) :
  CB 222 #[.string s] w (.tuple #[(.agg #[.int .u64 (lo (Int.natAbs (0))),.string (bg (Int.natAbs (0))),.bool (decide ((0)<0))]),.int .i64 4]):=by
 go_enter Tryz.func222,Tryz.ntmps222
 have I:=lh_ (hp0 w)
 refine kSl fun K O=>?_;go_wp2
 refine kF_ O (al1_ I) fun Wx0 J=>?_;clear O K
 clear I;have I:=J;clear J
 refine ks7_ fun K O T Y=>?_
 refine tk ?_
 refine ck Tryz.call161 (fun w' hw=>cutm s true _ HNG.out) ?_
 iterate 5 refine tk ?_
 refine nz Y I O ?_;clear Y T I O K;intro vw1 I
 refine ks5_ fun K O T Y=>?_
 refine tk ?_
 refine ck Tryz.call163 (fun w' hw=>qh3 (idig s) 0 0 _ HPN.out HPC.out om) ?_
 refine tk3_ ?_
 refine nlS Y I fun vw2 J=>?_
 clear Y T I
 go_wp2
 refine kF_ O ((J.out).aL (vw2.heap.size)) fun Wx2 I=>?_;clear O K
 clear J
 generalize vw2.heap.size=gx2 at *
 have HZ1:Hid ((if true then -((0:Nat):Int) else ((0:Nat):Int))=0):=lh_ ok
 have su1:wl (Int.natAbs (0))≤0:=by have e:=HZ1.out;first|omega|(rw [← e];split <;> simp <;> omega)|exact wl_le.2 (by decide +kernel)
 have lx2:=kc1_ I
 refine ks3_ fun K O T Y=>?_
 refine tk2_ ?_
 refine ck Tryz.call37 (fun w' hw=>qa7 true (0) (0) _ HZ1.out) ?_
 refine nlS Y I fun vw3 J=>?_
 clear Y T I lx2
 go_wp2
 refine kF_ O (((J.out).aL (vw3.heap.size)).er 1) fun Wx3 I=>?_;clear O K
 clear J
 generalize vw3.heap.size=gx3 at *
 refine wp_seq ?_
 refine wp_block ?_
 refine ks3_ fun K O T Y=>?_
 refine tk3_ ?_
 refine nz Y I O ?_;clear Y T I O K;intro vw4 I
 refine wp_cond_false (by rfl) ?_
 have hd1:decide ((0)<0)=false:=decide_eq_false ok
 have lx3:=kc1_ I
 refine ks5_ fun K O T Y=>?_
 iterate 5 refine tk ?_
 refine nz Y I O ?_;clear Y T I lx3 O K;intro vw5 I
 clear hd1
 refine wp_cond_true (by rfl) ?_
 refine ks1_ fun K O T Y=>?_
 refine tk ?_
 refine nlS Y I fun vw6 J=>?_
 clear Y T I
 have lx0:=kc0_ J;have fx0:=kf0_ J
 have r0:=Gr.refl vw6
 go_wp2
 refine kO O ?_;clear O K
 clear r0 lx0 fx0
 refine fH (((J.out).put2 0 0 rfl).put 0 2 _ rfl) fun Wx7 I=>?_
 clear J
 refine wp_ret ?_
 try simp only [Exit.then,Exit.inBlock]
 have lx0:=kc0_ I
 have r0:=Gr.refl Wx7
 exact bodyPost_ret (v:=.tuple #[(.agg #[.int .u64 0,.string ⟨#[]⟩,.bool false]),.int .i64 4]) qG5 rfl ⟨rfl,I.out.1⟩
theorem qU0 (s:ByteArray) (w:World) (hsz:(idig s).size≤9223372036854775807) (HNG:Hid (ineg s=true)) (n:Nat) (z:Int) (HZZ:Hid (-((n:Nat):Int)=z)) (HPC:Hid (qb8 (idig s)=0)) (HPN:Hid (pnum (idig s)=n)) (hn:0<n) (hw:wl n≤600) :
  CB 222 #[.string s] w (.tuple #[(.agg #[.int .u64 (lo z.natAbs),.string (bg z.natAbs),.bool (z<0)]),.int .i64 0]):=by
 go_enter Tryz.func222,Tryz.ntmps222
 have I:=lh_ (hp0 w)
 refine kSl fun K O=>?_;go_wp2
 refine kF_ O (al1_ I) fun Wx0 J=>?_;clear O K
 clear I;have I:=J;clear J
 refine ks7_ fun K O T Y=>?_
 refine tk ?_
 refine ck Tryz.call161 (fun w' hw=>cutm s true _ HNG.out) ?_
 iterate 5 refine tk ?_
 refine nz Y I O ?_;clear Y T I O K;intro vw1 I
 refine ks5_ fun K O T Y=>?_
 refine tk ?_
 refine ck Tryz.call163 (fun w' hw=>qh3 (idig s) n 0 _ HPN.out HPC.out om) ?_
 refine tk3_ ?_
 refine nlS Y I fun vw2 J=>?_
 clear Y T I
 go_wp2
 refine kF_ O ((J.out).aL (vw2.heap.size)) fun Wx2 I=>?_;clear O K
 clear J
 generalize vw2.heap.size=gx2 at *
 have HZ1:Hid ((if true then -((n:Nat):Int) else ((n:Nat):Int))=z):=lh_ (HZZ.out)
 have su1:wl z.natAbs≤600:=by have e:=HZ1.out;first|omega|(rw [← e];split <;> simp <;> omega)
 have lx2:=kc1_ I
 refine ks3_ fun K O T Y=>?_
 refine tk2_ ?_
 refine ck Tryz.call37 (fun w' hw=>qa7 true n z _ HZ1.out) ?_
 refine nlS Y I fun vw3 J=>?_
 clear Y T I lx2
 go_wp2
 refine kF_ O (((J.out).aL (vw3.heap.size)).er 1) fun Wx3 I=>?_;clear O K
 clear J
 generalize vw3.heap.size=gx3 at *
 refine wp_seq ?_
 refine wp_block ?_
 refine ks3_ fun K O T Y=>?_
 refine tk3_ ?_
 refine nz Y I O ?_;clear Y T I O K;intro vw4 I
 refine wp_cond_false (by rfl) ?_
 have hd1:decide (z<0)=true:=decide_eq_true (by have e9:=HZZ.out;omega)
 have lx3:=kc1_ I
 refine ks5_ fun K O T Y=>?_
 iterate 5 refine tk ?_
 refine nz Y I O ?_;clear Y T I lx3 O K;intro vw5 I
 clear hd1
 refine wp_cond_false (by rfl) ?_
 refine wp_skip ?_
 show Code.wp _ _ _ _ _
 have lx3:=kc1_ I
 refine ks1_ fun K O T Y=>?_
 refine tk ?_
 refine nlS Y I fun vw6 J=>?_
 clear Y T I lx3
 have lx0:=kc0_ J;have fx0:=kf0_ J
 have r0:=Gr.refl vw6
 go_wp2
 refine kO O ?_;clear O K
 clear r0 lx0 fx0
 refine fH ((((J.out).put2 0 0 rfl).put 0 2 _ rfl).er 1) fun Wx8 I=>?_
 clear J
 refine wp_ret ?_
 try simp only [Exit.then,Exit.inBlock]
 have lx0:=kc0_ I
 have r0:=Gr.refl Wx8
 exact bR ⟨rfl,I.out.1⟩ qG5
theorem qM0 (s:ByteArray) (w:World) (hsz:(idig s).size≤9223372036854775807) (HNG:Hid (ineg s=false)) (n:Nat) (z:Int) (HZZ:Hid (((n:Nat):Int)=z)) (HPC:Hid (qb8 (idig s)=0)) (HPN:Hid (pnum (idig s)=n)) (hw:wl n≤600) :
  CB 222 #[.string s] w (.tuple #[(.agg #[.int .u64 (lo z.natAbs),.string (bg z.natAbs),.bool (z<0)]),.int .i64 0]):=by
 go_enter Tryz.func222,Tryz.ntmps222
 have I:=lh_ (hp0 w)
 refine kSl fun K O=>?_;go_wp2
 refine kF_ O (al1_ I) fun Wx0 J=>?_;clear O K
 clear I;have I:=J;clear J
 refine ks7_ fun K O T Y=>?_
 refine tk ?_
 refine ck Tryz.call161 (fun w' hw=>cutm s false _ HNG.out) ?_
 iterate 5 refine tk ?_
 refine nz Y I O ?_;clear Y T I O K;intro vw1 I
 refine ks5_ fun K O T Y=>?_
 refine tk ?_
 refine ck Tryz.call163 (fun w' hw=>qh3 (idig s) n 0 _ HPN.out HPC.out om) ?_
 refine tk3_ ?_
 refine nlS Y I fun vw2 J=>?_
 clear Y T I
 go_wp2
 refine kF_ O ((J.out).aL (vw2.heap.size)) fun Wx2 I=>?_;clear O K
 clear J
 generalize vw2.heap.size=gx2 at *
 have HZ1:Hid ((if false then -((n:Nat):Int) else ((n:Nat):Int))=z):=lh_ (HZZ.out)
 have su1:wl z.natAbs≤600:=by have e:=HZ1.out;first|omega|(rw [← e];split <;> simp <;> omega)
 have lx2:=kc1_ I
 refine ks3_ fun K O T Y=>?_
 refine tk2_ ?_
 refine ck Tryz.call37 (fun w' hw=>qa7 false n z _ HZ1.out) ?_
 refine nlS Y I fun vw3 J=>?_
 clear Y T I lx2
 go_wp2
 refine kF_ O (((J.out).aL (vw3.heap.size)).er 1) fun Wx3 I=>?_;clear O K
 clear J
 generalize vw3.heap.size=gx3 at *
 refine wp_seq ?_
 refine wp_block ?_
 refine ks3_ fun K O T Y=>?_
 refine tk3_ ?_
 refine nz Y I O ?_;clear Y T I O K;intro vw4 I
 refine wp_cond_false (by rfl) ?_
 have hd1:decide (z<0)=false:=decide_eq_false (by have e9:=HZZ.out;omega)
 have lx3:=kc1_ I
 refine ks5_ fun K O T Y=>?_
 iterate 5 refine tk ?_
 refine nz Y I O ?_;clear Y T I lx3 O K;intro vw5 I
 clear hd1
 refine wp_cond_false (by rfl) ?_
 refine wp_skip ?_
 show Code.wp _ _ _ _ _
 have lx3:=kc1_ I
 refine ks1_ fun K O T Y=>?_
 refine tk ?_
 refine nlS Y I fun vw6 J=>?_
 clear Y T I lx3
 have lx0:=kc0_ J;have fx0:=kf0_ J
 have r0:=Gr.refl vw6
 go_wp2
 refine kO O ?_;clear O K
 clear r0 lx0 fx0
 refine fH ((((J.out).put2 0 0 rfl).put 0 2 _ rfl).er 1) fun Wx8 I=>?_
 clear J
 refine wp_ret ?_
 try simp only [Exit.then,Exit.inBlock]
 have lx0:=kc0_ I
 have r0:=Gr.refl Wx8
 exact bR ⟨rfl,I.out.1⟩ qG5
theorem qM1 (s:ByteArray) (w:World) (hs:s.size≤9223372036854775807) :
  CB 222 #[.string s] w (.tuple #[(Value.agg #[.int .u64 (lo (Int.natAbs (inum s))),.string (bg (Int.natAbs (inum s))),.bool (decide ((inum s)<0))]),.int .i64 (qc0 s)]):=by
 have hz:(idig s).size≤9223372036854775807:=Nat.le_trans (qf1 s) hs
 rcases ql7 (idig s) with hc|hc|hc
 ·obtain ⟨n,hn⟩:∃ n,pnum (idig s)=n:=⟨_,rfl⟩
  have hw:wl n≤600:=by rw [← hn];exact Nat.le_trans (wl_le.2 (qD_ (idig s) 512 rfl)) (by decide)
  cases hb:ineg s
  ·have h1:qc0 s=0:=qi1 hc (fun h=>by rw [hb] at h;exact absurd h.1 (by decide))
   have h2:inum s=((n:Nat):Int):=by rw [qi3 h1,hb,hn];rfl
   rw [h1,h2]
   exact qM0 s w hz (lh_ hb) n _ (lh_ rfl) (lh_ hc) (lh_ hn) hw
  by_cases h0:n=0
  ·have h1:qc0 s=4:=qv7 hc hb (by rw [hn,h0])
   have h2:inum s=0:=qm8 (by rw [h1];decide)
   rw [h1,h2]
   exact qU1 s w hz (lh_ hb) (lh_ hc) (lh_ (hn.trans h0))
  have h1:qc0 s=0:=qi1 hc (fun h=>h0 (by rw [← hn];exact h.2))
  have h2:inum s = -((n:Nat):Int):=by rw [qi3 h1,hb,hn];rfl
  rw [h1,h2]
  exact qU0 s w hz (lh_ hb) n _ (lh_ rfl) (lh_ hc) (lh_ hn) om hw
 all_goals
  have hn:=qA2 (s:=idig s) (by rw [hc];decide)
  have h1:=(qz5 (s:=s) (by rw [hc];decide)).trans hc
  have h2:inum s=0:=qm8 (by rw [h1];decide)
  rw [h1,h2]
  cases hb:ineg s
 ·exact qL9 s w hz (lh_ hb) (lh_ hc) (lh_ hn)
 ·exact qT9 s w hz (lh_ hb) (lh_ hc) (lh_ hn)
 ·exact qL_ s w hz (lh_ hb) (lh_ hc) (lh_ hn)
 exact qT_ s w hz (lh_ hb) (lh_ hc) (lh_ hn)
end
section
open Go.RowKit
attribute [local go_sem ↓] Go.wp_at_zero Go.wp_at_succ
theorem qm3 (s:ByteArray) (a c:Int) (w:World) (ha:inum s=a) (hc:qc0 s=c) (hs:s.size≤9223372036854775807) :
  CB 222 #[.string s] w (.tuple #[(Value.agg #[.int .u64 (lo a.natAbs),.string (bg a.natAbs),.bool (a<0)]),.int .i64 c]):=ha ▸ hc ▸ qM1 s w hs
theorem qU2 (a:Int) {n:Nat} {S:List UInt8} (h:a = -((n:Nat):Int)) (hn:0<n) (hd:Lib.decDigits n=S):itx a=⟨(45 :: S).toArray⟩:=by
 have hl:=qk4 a
 rw [if_pos om,show a.natAbs=n by omega,hd] at hl
 generalize itx a=t at hl
 cases t
 congr 1
 exact Array.toList_inj.1 hl
end
end Go.Proofs.YtobojnodohjiaaaGreatDoor
