/- A pack of texts: CutS, FParse. No condition but those stated. -/
import Derived.Test.YtobojnodohjiaaaGreatDoorHp
import Derived.Test.YtobojnodohjiaaaGreatDoorGreatP
import Derived.Test.YtobojnodohjiaaaGreatDoorShelf
import Derived.Lib.IndexLaws
import Derived.Test.YtobojnodohjiaaaGreatDoorPV
import Derived.Test.YtobojnodohjiaaaGreatDoorPQ
set_option maxRecDepth 100000
set_option maxHeartbeats 16000000
set_option linter.unusedVariables false
set_option linter.unusedSimpArgs false
namespace Go.Proofs.YtobojnodohjiaaaGreatDoor
section
open Go.RowKit
def fi (s:ByteArray):Int:=Lib.indexByte s.data.toList 47
def fup (s:ByteArray):ByteArray:=if 0≤fi s then s.extract 0 (fi s).toNat else s
def fdn (s:ByteArray):ByteArray:=if 0≤fi s then s.extract ((fi s).toNat+1) s.size else ⟨#[]⟩
def ftwo (s:ByteArray):Bool:=decide (0≤fi s)
theorem qH8 (s:ByteArray):fi s = -1∨∃ i:Nat,fi s=(i:Int)∧i<s.size:=by
 have h:=Lib.indexByte_ge s.data.toList 47
 by_cases e:fi s = -1
 ·exact .inl e
 obtain ⟨i,hi⟩:∃ i:Nat,fi s=(i:Int):=⟨(fi s).toNat,by unfold fi at *; omega⟩
 have h2:=(Lib.indexByte_some hi).1
 refine .inr ⟨i,hi,?_⟩
 have h3:=(List.getElem?_eq_some_iff.1 h2).1
 simpa using h3
theorem qH_ (s:ByteArray):(fup s).size≤s.size:=by
 unfold fup;split
 ·simp;omega
 exact Nat.le_refl _
theorem qH7 (s:ByteArray):(fdn s).size≤s.size:=by
 unfold fdn;split
 ·simp
 exact Nat.zero_le _
theorem qU8 (s:ByteArray) (w:World) (hs:s.size≤9223372036854775807) :
  CB 236 #[.string s,.string ⟨#[47]⟩] w (.tuple #[.string (fup s),.string (fdn s),.bool (ftwo s)]):=by
 rcases qH8 s with h|⟨i,h,hi⟩
 ·have e1:fup s=s:=by unfold fup;rw [if_neg om]
  have e2:fdn s=⟨#[]⟩:=by unfold fdn;rw [if_neg om]
  have e3:ftwo s=false:=decide_eq_false om
  rw [e1,e2,e3]
  have H:=lh_ h
  clear h e1 e2 e3
  go_enter Tryz.func236,Tryz.ntmps236
  go_wp2_with fail
  refine (Tryz.stringslite_Index_one s 47 w).mono ?_
  rintro e w1 ⟨rfl,rfl⟩
  have h2:Lib.indexByte s.data.toList 47 = -1:=H.out
  rw [h2]
  go_wp2
  exact bR ⟨rfl,Below.refl _ _⟩ (by simp [results,Tryz.results236,go_sem])
 have e1:fup s=s.extract 0 i:=by unfold fup;rw [if_pos om,h];rfl
 have e2:fdn s=s.extract (i+1) s.size:=by unfold fdn;rw [if_pos om,h];rfl
 have e3:ftwo s=true:=decide_eq_true om
 rw [e1,e2,e3]
 have H:=lh_ h
 clear h e1 e2 e3
 go_enter Tryz.func236,Tryz.ntmps236
 go_wp2_with fail
 refine (Tryz.stringslite_Index_one s 47 w).mono ?_
 rintro e w1 ⟨rfl,rfl⟩
 have h2:Lib.indexByte s.data.toList 47=(i:Int):=H.out
 rw [h2]
 have hw1:IntKind.i64.wrap ((i:Int)+1)=((i+1:Nat):Int):=by rw [IntKind.wrap_i64];omega
 have hle:(i:Int)≤(s.size:Int):=by omega
 have hle2:((i+1:Nat):Int)≤(s.size:Int):=by omega
 go_wp2
 go_region
 go_wp2
 exact bR ⟨rfl,(Below.refl _ _).drew⟩ (by simp [results,Tryz.results236,go_sem])
theorem xh4 (s:ByteArray) (w:World) (hs:s.size≤9223372036854775807) :
  CB 162 #[.string s,.string ⟨#[47]⟩] w (.tuple #[.string (fup s),.string (fdn s),.bool (ftwo s)]):=by
 go_enter Tryz.func162,Tryz.ntmps162
 go_wp2_with fail
 refine (qU8 s w hs).mono ?_
 rintro e w1 ⟨rfl,hb⟩
 have HB:=lh_ hb
 clear hb
 go_wp2
 exact bR ⟨rfl,HB.out⟩ (by simp [results,Tryz.results162,go_sem])
end
section
open Go.RowKit
attribute [local go_sem ↓] Go.wp_at_zero Go.wp_at_succ
attribute [local go_sem ↓] eq_nat eq_nat_zero eq_int
theorem qG_ (s up dn:ByteArray) (tw:Bool) (w:World) (h1:fup s=up) (h2:fdn s=dn) (h3:ftwo s=tw) (hs:s.size≤9223372036854775807) :
  CB 162 #[.string s,.string ⟨#[47]⟩] w (.tuple #[.string up,.string dn,.bool tw]):=h1 ▸ h2 ▸ h3 ▸ xh4 s w hs
theorem qS7 (s up dn:ByteArray) (tw:Bool) (w:World) (HUP:Hid (fup s=up)) (HDN:Hid (fdn s=dn)) (HTW:Hid (ftwo s=tw)) (hs:s.size≤9223372036854775807) (hup:up.size≤9223372036854775807) (hdn:dn.size≤9223372036854775807) (HPC:Hid (qc0 up=3)) (HPN:Hid (inum up=0))  :
  CB 152 #[.string s] w (.tuple #[(.agg #[.int .u64 (lo (Int.natAbs (((0:Rat)).num))),.string (bg (Int.natAbs (((0:Rat)).num))),.bool (decide ((((0:Rat)).num)<0)),.int .u64 (lo (((0:Rat)).den - 1)),.string (bg (((0:Rat)).den - 1))]),.int .i64 3]):=by
 go_enter Tryz.func152,Tryz.ntmps152
 have I:=lh_ (hp0 w)
 refine kSl fun K O=>?_;go_wp2
 refine kF_ O (al1_ I) fun Wx0 J=>?_;clear O K
 clear I;have I:=J;clear J
 refine qj6 fun K O T Y=>?_
 refine tk ?_
 refine ck Tryz.call162 (fun w' hw=>qG_ s up dn tw _ HUP.out HDN.out HTW.out om) ?_
 iterate 7 refine tk ?_
 refine nz Y I O ?_;clear Y T I O K;intro vw1 I
 refine ks5_ fun K O T Y=>?_
 refine tk ?_
 refine ck Tryz.call222 (fun w' hw=>qm3 up (0) 3 _ HPN.out HPC.out om) ?_
 refine tk3_ ?_
 refine nlS Y I fun vw2 J=>?_
 clear Y T I
 go_wp2
 refine kF_ O ((J.out).aL (vw2.heap.size)) fun Wx2 I=>?_;clear O K
 clear J
 generalize vw2.heap.size=gx2 at *
 refine wp_seq ?_
 refine qa2 fun K O T Y=>?_
 refine tk3_ ?_
 iterate 2 refine sk ?_
 refine tk ?_
 refine nz Y I O ?_;clear Y T I O K;intro vw3 I
 refine wp_cond_true (by rfl) ?_
 have HZ1:Hid (((0:Int):Rat)=(0:Rat)):=lh_ (by decide +kernel)
 have su1:sz ((0:Rat))≤1:=sz_of (wl_le.2 (by decide +kernel)) (wl_le.2 (by decide +kernel))
 have lx2:=kc1_ I
 refine ks3_ fun K O T Y=>?_
 refine tk ?_
 refine ck Tryz.call212 (fun w' hw=>qh0 (0) (0:Rat) _ HZ1.out) ?_
 refine tk ?_
 refine nlS Y I fun vw4 J=>?_
 clear Y T I lx2
 have lx0:=kc0_ J;have fx0:=kf0_ J
 have r0:=Gr.refl vw4
 go_wp2
 refine kO O ?_;clear O K
 clear r0 lx0 fx0
 refine fH ((((J.out).put2 0 0 rfl).put2 0 2 rfl).put 0 4 _ rfl) fun Wx4 I=>?_
 clear J
 refine wp_ret ?_
 try simp only [Exit.then,Exit.inBlock]
 have lx0:=kc0_ I
 have r0:=Gr.refl Wx4
 exact bR ⟨rfl,I.out.1⟩ qG6
theorem qS8 (s up dn:ByteArray) (tw:Bool) (w:World) (HUP:Hid (fup s=up)) (HDN:Hid (fdn s=dn)) (HTW:Hid (ftwo s=tw)) (hs:s.size≤9223372036854775807) (hup:up.size≤9223372036854775807) (hdn:dn.size≤9223372036854775807) (HPC:Hid (qc0 up=4)) (HPN:Hid (inum up=0))  :
  CB 152 #[.string s] w (.tuple #[(.agg #[.int .u64 (lo (Int.natAbs (((0:Rat)).num))),.string (bg (Int.natAbs (((0:Rat)).num))),.bool (decide ((((0:Rat)).num)<0)),.int .u64 (lo (((0:Rat)).den - 1)),.string (bg (((0:Rat)).den - 1))]),.int .i64 4]):=by
 go_enter Tryz.func152,Tryz.ntmps152
 have I:=lh_ (hp0 w)
 refine kSl fun K O=>?_;go_wp2
 refine kF_ O (al1_ I) fun Wx0 J=>?_;clear O K
 clear I;have I:=J;clear J
 refine qj6 fun K O T Y=>?_
 refine tk ?_
 refine ck Tryz.call162 (fun w' hw=>qG_ s up dn tw _ HUP.out HDN.out HTW.out om) ?_
 iterate 7 refine tk ?_
 refine nz Y I O ?_;clear Y T I O K;intro vw1 I
 refine ks5_ fun K O T Y=>?_
 refine tk ?_
 refine ck Tryz.call222 (fun w' hw=>qm3 up (0) 4 _ HPN.out HPC.out om) ?_
 refine tk3_ ?_
 refine nlS Y I fun vw2 J=>?_
 clear Y T I
 go_wp2
 refine kF_ O ((J.out).aL (vw2.heap.size)) fun Wx2 I=>?_;clear O K
 clear J
 generalize vw2.heap.size=gx2 at *
 refine wp_seq ?_
 refine qa2 fun K O T Y=>?_
 refine tk3_ ?_
 iterate 2 refine sk ?_
 refine tk ?_
 refine nz Y I O ?_;clear Y T I O K;intro vw3 I
 refine wp_cond_true (by rfl) ?_
 have HZ1:Hid (((0:Int):Rat)=(0:Rat)):=lh_ (by decide +kernel)
 have su1:sz ((0:Rat))≤1:=sz_of (wl_le.2 (by decide +kernel)) (wl_le.2 (by decide +kernel))
 have lx2:=kc1_ I
 refine ks3_ fun K O T Y=>?_
 refine tk ?_
 refine ck Tryz.call212 (fun w' hw=>qh0 (0) (0:Rat) _ HZ1.out) ?_
 refine tk ?_
 refine nlS Y I fun vw4 J=>?_
 clear Y T I lx2
 have lx0:=kc0_ J;have fx0:=kf0_ J
 have r0:=Gr.refl vw4
 go_wp2
 refine kO O ?_;clear O K
 clear r0 lx0 fx0
 refine fH ((((J.out).put2 0 0 rfl).put2 0 2 rfl).put 0 4 _ rfl) fun Wx4 I=>?_
 clear J
 refine wp_ret ?_
 try simp only [Exit.then,Exit.inBlock]
 have lx0:=kc0_ I
 have r0:=Gr.refl Wx4
 exact bR ⟨rfl,I.out.1⟩ qG6
theorem xd3 (s up dn:ByteArray) (a:Int) (z:Rat) (w:World) (HUP:Hid (fup s=up)) (HDN:Hid (fdn s=dn)) (HTW:Hid (ftwo s=false)) (hs:s.size≤9223372036854775807) (hup:up.size≤9223372036854775807) (hdn:dn.size≤9223372036854775807) (HPC:Hid (qc0 up=0)) (HPN:Hid (inum up=a)) (hwa:wl (Int.natAbs a)≤600) (HZ:Hid (((a:Int):Rat)=z))  :
  CB 152 #[.string s] w (.tuple #[(.agg #[.int .u64 (lo z.num.natAbs),.string (bg z.num.natAbs),.bool (z.num<0),.int .u64 (lo (z.den - 1)),.string (bg (z.den - 1))]),.int .i64 0]):=by
 go_enter Tryz.func152,Tryz.ntmps152
 have I:=lh_ (hp0 w)
 refine kSl fun K O=>?_;go_wp2
 refine kF_ O (al1_ I) fun Wx0 J=>?_;clear O K
 clear I;have I:=J;clear J
 refine qj6 fun K O T Y=>?_
 refine tk ?_
 refine ck Tryz.call162 (fun w' hw=>qG_ s up dn false _ HUP.out HDN.out HTW.out om) ?_
 iterate 7 refine tk ?_
 refine nz Y I O ?_;clear Y T I O K;intro vw1 I
 refine ks5_ fun K O T Y=>?_
 refine tk ?_
 refine ck Tryz.call222 (fun w' hw=>qm3 up a 0 _ HPN.out HPC.out om) ?_
 refine tk3_ ?_
 refine nlS Y I fun vw2 J=>?_
 clear Y T I
 go_wp2
 refine kF_ O ((J.out).aL (vw2.heap.size)) fun Wx2 I=>?_;clear O K
 clear J
 generalize vw2.heap.size=gx2 at *
 refine wp_seq ?_
 refine qa2 fun K O T Y=>?_
 iterate 6 refine tk ?_
 refine nz Y I O ?_;clear Y T I O K;intro vw3 I
 refine wp_cond_true (by rfl) ?_
 have HZ1:Hid (((a:Int):Rat)=z):=lh_ (HZ.out)
 have su1:sz z≤600:=by have e:=HZ1.out;first|omega|(rw [← e];rw [qB3];omega)
 have lx2:=kc1_ I
 refine ks3_ fun K O T Y=>?_
 refine tk ?_
 refine ck Tryz.call212 (fun w' hw=>qh0 a z _ HZ1.out) ?_
 refine tk ?_
 refine nlS Y I fun vw4 J=>?_
 clear Y T I lx2
 have lx0:=kc0_ J;have fx0:=kf0_ J
 have r0:=Gr.refl vw4
 go_wp2
 refine kO O ?_;clear O K
 clear r0 lx0 fx0
 refine fH ((((J.out).put2 0 0 rfl).put2 0 2 rfl).put 0 4 _ rfl) fun Wx4 I=>?_
 clear J
 refine wp_ret ?_
 try simp only [Exit.then,Exit.inBlock]
 have lx0:=kc0_ I
 have r0:=Gr.refl Wx4
 exact bR ⟨rfl,I.out.1⟩ qG6
theorem qS9 (s up dn:ByteArray) (a:Int) (w:World) (HUP:Hid (fup s=up)) (HDN:Hid (fdn s=dn)) (HTW:Hid (ftwo s=true)) (hs:s.size≤9223372036854775807) (hup:up.size≤9223372036854775807) (hdn:dn.size≤9223372036854775807) (HPC:Hid (qc0 up=0)) (HPN:Hid (inum up=a)) (hwa:wl (Int.natAbs a)≤600) (HQC:Hid (qb8 dn=3)) (HQN:Hid (pnum dn=0))  :
  CB 152 #[.string s] w ((.tuple #[(.agg #[.int .u64 0,.string ⟨#[]⟩,.bool false,.int .u64 0,.string ⟨#[]⟩]),.int .i64 3])):=by
 go_enter Tryz.func152,Tryz.ntmps152
 have I:=lh_ (hp0 w)
 refine kSl fun K O=>?_;go_wp2
 refine kF_ O (al1_ I) fun Wx0 J=>?_;clear O K
 clear I;have I:=J;clear J
 refine qj6 fun K O T Y=>?_
 refine tk ?_
 refine ck Tryz.call162 (fun w' hw=>qG_ s up dn true _ HUP.out HDN.out HTW.out om) ?_
 iterate 7 refine tk ?_
 refine nz Y I O ?_;clear Y T I O K;intro vw1 I
 refine ks5_ fun K O T Y=>?_
 refine tk ?_
 refine ck Tryz.call222 (fun w' hw=>qm3 up a 0 _ HPN.out HPC.out om) ?_
 refine tk3_ ?_
 refine nlS Y I fun vw2 J=>?_
 clear Y T I
 go_wp2
 refine kF_ O ((J.out).aL (vw2.heap.size)) fun Wx2 I=>?_;clear O K
 clear J
 generalize vw2.heap.size=gx2 at *
 refine wp_seq ?_
 refine qa2 fun K O T Y=>?_
 iterate 6 refine tk ?_
 refine nz Y I O ?_;clear Y T I O K;intro vw3 I
 refine wp_cond_false (by rfl) ?_
 refine wp_skip ?_
 show Code.wp _ _ _ _ _
 refine ks5_ fun K O T Y=>?_
 refine tk ?_
 refine ck Tryz.call163 (fun w' hw=>qh3 dn 0 3 _ HQN.out HQC.out om) ?_
 refine tk3_ ?_
 refine nlS Y I fun vw4 J=>?_
 clear Y T I
 go_wp2
 refine kF_ O ((J.out).aL (vw4.heap.size)) fun Wx5 I=>?_;clear O K
 clear J
 generalize vw4.heap.size=gx3 at *
 refine wp_seq ?_
 refine ks2_ fun K O T Y=>?_
 refine tk2_ ?_
 refine nz Y I O ?_;clear Y T I O K;intro vw5 I
 refine wp_cond_true (by rfl) ?_
 refine ks2_ fun K O T Y=>?_
 refine tk2_ ?_
 refine nlS Y I fun vw6 J=>?_
 clear Y T I
 have lx0:=kc0_ J;have fx0:=kf0_ J
 have r0:=Gr.refl vw6
 go_wp2
 refine kO O ?_;clear O K
 clear r0 lx0 fx0
 refine fH ((((J.out).put2 0 0 rfl).put2 0 2 rfl).put 0 4 _ rfl) fun Wx7 I=>?_
 clear J
 refine wp_ret ?_
 try simp only [Exit.then,Exit.inBlock]
 have lx0:=kc0_ I
 have r0:=Gr.refl Wx7
 exact bodyPost_ret (v:=.tuple #[(.agg #[.int .u64 0,.string ⟨#[]⟩,.bool false,.int .u64 0,.string ⟨#[]⟩]),.int .i64 3]) qG6 rfl ⟨rfl,I.out.1⟩
theorem qS_ (s up dn:ByteArray) (a:Int) (w:World) (HUP:Hid (fup s=up)) (HDN:Hid (fdn s=dn)) (HTW:Hid (ftwo s=true)) (hs:s.size≤9223372036854775807) (hup:up.size≤9223372036854775807) (hdn:dn.size≤9223372036854775807) (HPC:Hid (qc0 up=0)) (HPN:Hid (inum up=a)) (hwa:wl (Int.natAbs a)≤600) (HQC:Hid (qb8 dn=4)) (HQN:Hid (pnum dn=0))  :
  CB 152 #[.string s] w ((.tuple #[(.agg #[.int .u64 0,.string ⟨#[]⟩,.bool false,.int .u64 0,.string ⟨#[]⟩]),.int .i64 4])):=by
 go_enter Tryz.func152,Tryz.ntmps152
 have I:=lh_ (hp0 w)
 refine kSl fun K O=>?_;go_wp2
 refine kF_ O (al1_ I) fun Wx0 J=>?_;clear O K
 clear I;have I:=J;clear J
 refine qj6 fun K O T Y=>?_
 refine tk ?_
 refine ck Tryz.call162 (fun w' hw=>qG_ s up dn true _ HUP.out HDN.out HTW.out om) ?_
 iterate 7 refine tk ?_
 refine nz Y I O ?_;clear Y T I O K;intro vw1 I
 refine ks5_ fun K O T Y=>?_
 refine tk ?_
 refine ck Tryz.call222 (fun w' hw=>qm3 up a 0 _ HPN.out HPC.out om) ?_
 refine tk3_ ?_
 refine nlS Y I fun vw2 J=>?_
 clear Y T I
 go_wp2
 refine kF_ O ((J.out).aL (vw2.heap.size)) fun Wx2 I=>?_;clear O K
 clear J
 generalize vw2.heap.size=gx2 at *
 refine wp_seq ?_
 refine qa2 fun K O T Y=>?_
 iterate 6 refine tk ?_
 refine nz Y I O ?_;clear Y T I O K;intro vw3 I
 refine wp_cond_false (by rfl) ?_
 refine wp_skip ?_
 show Code.wp _ _ _ _ _
 refine ks5_ fun K O T Y=>?_
 refine tk ?_
 refine ck Tryz.call163 (fun w' hw=>qh3 dn 0 4 _ HQN.out HQC.out om) ?_
 refine tk3_ ?_
 refine nlS Y I fun vw4 J=>?_
 clear Y T I
 go_wp2
 refine kF_ O ((J.out).aL (vw4.heap.size)) fun Wx5 I=>?_;clear O K
 clear J
 generalize vw4.heap.size=gx3 at *
 refine wp_seq ?_
 refine ks2_ fun K O T Y=>?_
 refine tk2_ ?_
 refine nz Y I O ?_;clear Y T I O K;intro vw5 I
 refine wp_cond_true (by rfl) ?_
 refine ks2_ fun K O T Y=>?_
 refine tk2_ ?_
 refine nlS Y I fun vw6 J=>?_
 clear Y T I
 have lx0:=kc0_ J;have fx0:=kf0_ J
 have r0:=Gr.refl vw6
 go_wp2
 refine kO O ?_;clear O K
 clear r0 lx0 fx0
 refine fH ((((J.out).put2 0 0 rfl).put2 0 2 rfl).put 0 4 _ rfl) fun Wx7 I=>?_
 clear J
 refine wp_ret ?_
 try simp only [Exit.then,Exit.inBlock]
 have lx0:=kc0_ I
 have r0:=Gr.refl Wx7
 exact bodyPost_ret (v:=.tuple #[(.agg #[.int .u64 0,.string ⟨#[]⟩,.bool false,.int .u64 0,.string ⟨#[]⟩]),.int .i64 4]) qG6 rfl ⟨rfl,I.out.1⟩
theorem xd4 (s up dn:ByteArray) (a:Int) (w:World) (HUP:Hid (fup s=up)) (HDN:Hid (fdn s=dn)) (HTW:Hid (ftwo s=true)) (hs:s.size≤9223372036854775807) (hup:up.size≤9223372036854775807) (hdn:dn.size≤9223372036854775807) (HPC:Hid (qc0 up=0)) (HPN:Hid (inum up=a)) (hwa:wl (Int.natAbs a)≤600) (HQC:Hid (qb8 dn=0)) (HQN:Hid (pnum dn=0))  :
  CB 152 #[.string s] w (.tuple #[(.agg #[.int .u64 (lo (Int.natAbs (((0:Rat)).num))),.string (bg (Int.natAbs (((0:Rat)).num))),.bool (decide ((((0:Rat)).num)<0)),.int .u64 (lo (((0:Rat)).den - 1)),.string (bg (((0:Rat)).den - 1))]),.int .i64 5]):=by
 go_enter Tryz.func152,Tryz.ntmps152
 have I:=lh_ (hp0 w)
 refine kSl fun K O=>?_;go_wp2
 refine kF_ O (al1_ I) fun Wx0 J=>?_;clear O K
 clear I;have I:=J;clear J
 refine qj6 fun K O T Y=>?_
 refine tk ?_
 refine ck Tryz.call162 (fun w' hw=>qG_ s up dn true _ HUP.out HDN.out HTW.out om) ?_
 iterate 7 refine tk ?_
 refine nz Y I O ?_;clear Y T I O K;intro vw1 I
 refine ks5_ fun K O T Y=>?_
 refine tk ?_
 refine ck Tryz.call222 (fun w' hw=>qm3 up a 0 _ HPN.out HPC.out om) ?_
 refine tk3_ ?_
 refine nlS Y I fun vw2 J=>?_
 clear Y T I
 go_wp2
 refine kF_ O ((J.out).aL (vw2.heap.size)) fun Wx2 I=>?_;clear O K
 clear J
 generalize vw2.heap.size=gx2 at *
 refine wp_seq ?_
 refine qa2 fun K O T Y=>?_
 iterate 6 refine tk ?_
 refine nz Y I O ?_;clear Y T I O K;intro vw3 I
 refine wp_cond_false (by rfl) ?_
 refine wp_skip ?_
 show Code.wp _ _ _ _ _
 refine ks5_ fun K O T Y=>?_
 refine tk ?_
 refine ck Tryz.call163 (fun w' hw=>qh3 dn 0 0 _ HQN.out HQC.out om) ?_
 refine tk3_ ?_
 refine nlS Y I fun vw4 J=>?_
 clear Y T I
 go_wp2
 refine kF_ O ((J.out).aL (vw4.heap.size)) fun Wx5 I=>?_;clear O K
 clear J
 generalize vw4.heap.size=gx3 at *
 refine wp_seq ?_
 refine ks2_ fun K O T Y=>?_
 refine tk2_ ?_
 refine nz Y I O ?_;clear Y T I O K;intro vw5 I
 refine wp_cond_false (by rfl) ?_
 refine wp_skip ?_
 show Code.wp _ _ _ _ _
 have lx2:=kc1_ I
 have lx3:=kc2_ I
 refine ks5_ fun K O T Y=>?_
 refine tk2_ ?_
 refine ck Tryz.call102 (fun w' hw=>qp2 a (0) _ ok) ?_
 refine tk2_ ?_
 refine nlS Y I fun vw6 J=>?_
 clear Y T I lx2 lx3
 have lx0:=kc0_ J;have fx0:=kf0_ J
 have r0:=Gr.refl vw6
 go_wp2
 refine kO O ?_;clear O K
 clear r0 lx0 fx0
 refine fH ((((((J.out).put2 0 0 rfl).put2 0 2 rfl).put 0 4 _ rfl).er 2).er 1) fun Wx8 I=>?_
 clear J
 refine wp_ret ?_
 try simp only [Exit.then,Exit.inBlock]
 have lx0:=kc0_ I
 have r0:=Gr.refl Wx8
 exact bR ⟨rfl,I.out.1⟩ qG6
theorem xd5 (s up dn:ByteArray) (a:Int) (n:Nat) (z:Rat) (w:World) (HUP:Hid (fup s=up)) (HDN:Hid (fdn s=dn)) (HTW:Hid (ftwo s=true)) (hs:s.size≤9223372036854775807) (hup:up.size≤9223372036854775807) (hdn:dn.size≤9223372036854775807) (HPC:Hid (qc0 up=0)) (HPN:Hid (inum up=a)) (hwa:wl (Int.natAbs a)≤600) (HQC:Hid (qb8 dn=0)) (HQN:Hid (pnum dn=n)) (hn0:0<n) (hwn:wl n≤600) (HZ:Hid (mkRat a n=z))  :
  CB 152 #[.string s] w (.tuple #[(.agg #[.int .u64 (lo z.num.natAbs),.string (bg z.num.natAbs),.bool (z.num<0),.int .u64 (lo (z.den - 1)),.string (bg (z.den - 1))]),.int .i64 0]):=by
 go_enter Tryz.func152,Tryz.ntmps152
 have I:=lh_ (hp0 w)
 refine kSl fun K O=>?_;go_wp2
 refine kF_ O (al1_ I) fun Wx0 J=>?_;clear O K
 clear I;have I:=J;clear J
 refine qj6 fun K O T Y=>?_
 refine tk ?_
 refine ck Tryz.call162 (fun w' hw=>qG_ s up dn true _ HUP.out HDN.out HTW.out om) ?_
 iterate 7 refine tk ?_
 refine nz Y I O ?_;clear Y T I O K;intro vw1 I
 refine ks5_ fun K O T Y=>?_
 refine tk ?_
 refine ck Tryz.call222 (fun w' hw=>qm3 up a 0 _ HPN.out HPC.out om) ?_
 refine tk3_ ?_
 refine nlS Y I fun vw2 J=>?_
 clear Y T I
 go_wp2
 refine kF_ O ((J.out).aL (vw2.heap.size)) fun Wx2 I=>?_;clear O K
 clear J
 generalize vw2.heap.size=gx2 at *
 refine wp_seq ?_
 refine qa2 fun K O T Y=>?_
 iterate 6 refine tk ?_
 refine nz Y I O ?_;clear Y T I O K;intro vw3 I
 refine wp_cond_false (by rfl) ?_
 refine wp_skip ?_
 show Code.wp _ _ _ _ _
 refine ks5_ fun K O T Y=>?_
 refine tk ?_
 refine ck Tryz.call163 (fun w' hw=>qh3 dn n 0 _ HQN.out HQC.out om) ?_
 refine tk3_ ?_
 refine nlS Y I fun vw4 J=>?_
 clear Y T I
 go_wp2
 refine kF_ O ((J.out).aL (vw4.heap.size)) fun Wx5 I=>?_;clear O K
 clear J
 generalize vw4.heap.size=gx3 at *
 refine wp_seq ?_
 refine ks2_ fun K O T Y=>?_
 refine tk2_ ?_
 refine nz Y I O ?_;clear Y T I O K;intro vw5 I
 refine wp_cond_false (by rfl) ?_
 refine wp_skip ?_
 show Code.wp _ _ _ _ _
 have HZ1:Hid (mkRat a n=z):=lh_ (HZ.out)
 have su1:sz z≤600:=by have e:=HZ1.out;first|omega|(rw [← e];exact qc3 (k:=600) om om (by decide))
 have lx2:=kc1_ I
 have lx3:=kc2_ I
 refine ks5_ fun K O T Y=>?_
 refine tk2_ ?_
 refine ck Tryz.call102 (fun w' hw=>qd7 a n z _ (lh_ HZ1.out) ok om om) ?_
 refine tk2_ ?_
 refine nlS Y I fun vw6 J=>?_
 clear Y T I lx2 lx3
 have lx0:=kc0_ J;have fx0:=kf0_ J
 have r0:=Gr.refl vw6
 go_wp2
 refine kO O ?_;clear O K
 clear r0 lx0 fx0
 refine fH ((((((J.out).put2 0 0 rfl).put2 0 2 rfl).put 0 4 _ rfl).er 2).er 1) fun Wx8 I=>?_
 clear J
 refine wp_ret ?_
 try simp only [Exit.then,Exit.inBlock]
 have lx0:=kc0_ I
 have r0:=Gr.refl Wx8
 exact bR ⟨rfl,I.out.1⟩ qG6
def qc4 (s:ByteArray):Int:=if qc0 (fup s)≠0 then qc0 (fup s) else if ftwo s=false then 0 else if qb8 (fdn s)≠0 then qb8 (fdn s) else if pnum (fdn s)=0 then 5 else 0
def fnum (s:ByteArray):Rat:=if qc0 (fup s)≠0 then 0 else if ftwo s=false then ((inum (fup s):Int):Rat) else if qb8 (fdn s)≠0 then 0 else mkRat (inum (fup s)) (pnum (fdn s))
theorem qj8 (s:ByteArray):(qb8 s=0∧wl (pnum s)≤512∧tw (pnum s)≤1024)∨(qb8 s=3∧pnum s=0)∨(qb8 s=4∧pnum s=0):=by
 by_cases h2:4096<s.size
 ·exact .inr (.inl (ql8 h2))
 by_cases h3:qx5 s
 ·exact .inl ⟨(qp6 om h3).1,wl_le.2 (qD_ s 512 rfl),qe_.2 (qE0 s 1024 rfl)⟩
 exact .inr (.inr (qj7 om h3))
theorem qj4 (s:ByteArray):(qc0 s=0∧wl (inum s).natAbs≤512∧tw (inum s).natAbs≤1024)∨(qc0 s=3∧inum s=0)∨(qc0 s=4∧inum s=0):=by
 rcases qD2 s with hc|hc|hc
 ·refine .inl ⟨hc,?_,?_⟩
  ·rw [qI0 s hc];exact wl_le.2 (qD_ (idig s) 512 rfl)
  rw [qI0 s hc];exact qe_.2 (qE0 (idig s) 1024 rfl)
 ·exact .inr (.inl ⟨hc,qm8 (by rw [hc];decide)⟩)
 exact .inr (.inr ⟨hc,qm8 (by rw [hc];decide)⟩)
theorem qL6 (s:ByteArray) (w:World) (hs:s.size≤9223372036854775807) :
  CB 152 #[.string s] w (.tuple #[(Value.agg #[.int .u64 (lo (Int.natAbs ((fnum s).num))),.string (bg (Int.natAbs ((fnum s).num))),.bool (decide (((fnum s).num)<0)),.int .u64 (lo ((fnum s).den - 1)),.string (bg ((fnum s).den - 1))]),.int .i64 (qc4 s)]):=by
 have h1:=Nat.le_trans (qH_ s) hs
 have h2:=Nat.le_trans (qH7 s) hs
 rcases qj4 (fup s) with ⟨hc,hw,_⟩|⟨hc,hn⟩|⟨hc,hn⟩
 ·rcases Bool.eq_false_or_eq_true (ftwo s) with ht|ht
  ·rcases qj8 (fdn s) with ⟨qc,qw,_⟩|⟨qc,qn⟩|⟨qc,qn⟩
   ·by_cases h0:pnum (fdn s)=0
    ·have e1:qc4 s=5:=by unfold qc4;simp [hc,ht,qc,h0]
     have e2:fnum s=0:=by unfold fnum;simp [hc,ht,qc,h0]
     rw [e1,e2]
     exact xd4 s _ _ _ w (lh_ rfl) (lh_ rfl) (lh_ ht) hs h1 h2 (lh_ hc) (lh_ rfl) om (lh_ qc) (lh_ h0)
    have e1:qc4 s=0:=by unfold qc4;simp [hc,ht,qc,h0]
    have e2:mkRat (inum (fup s)) (pnum (fdn s))=fnum s:=by unfold fnum;simp [hc,ht,qc]
    rw [e1]
    exact xd5 s _ _ _ _ _ w (lh_ rfl) (lh_ rfl) (lh_ ht) hs h1 h2 (lh_ hc) (lh_ rfl) om (lh_ qc) (lh_ rfl) om om (lh_ e2)
   ·have e1:qc4 s=3:=by unfold qc4;simp [hc,ht,qc]
    have e2:fnum s=0:=by unfold fnum;simp [hc,ht,qc]
    rw [e1,e2]
    exact qS9 s _ _ _ w (lh_ rfl) (lh_ rfl) (lh_ ht) hs h1 h2 (lh_ hc) (lh_ rfl) om (lh_ qc) (lh_ qn)
   have e1:qc4 s=4:=by unfold qc4;simp [hc,ht,qc]
   have e2:fnum s=0:=by unfold fnum;simp [hc,ht,qc]
   rw [e1,e2]
   exact qS_ s _ _ _ w (lh_ rfl) (lh_ rfl) (lh_ ht) hs h1 h2 (lh_ hc) (lh_ rfl) om (lh_ qc) (lh_ qn)
  have e1:qc4 s=0:=by unfold qc4;simp [hc,ht]
  have e2:((inum (fup s):Int):Rat)=fnum s:=by unfold fnum;simp [hc,ht]
  rw [e1]
  exact xd3 s _ _ _ _ w (lh_ rfl) (lh_ rfl) (lh_ ht) hs h1 h2 (lh_ hc) (lh_ rfl) om (lh_ e2)
 ·have e1:qc4 s=3:=by unfold qc4;simp [hc]
  have e2:fnum s=0:=by unfold fnum;simp [hc]
  rw [e1,e2]
  exact qS7 s _ _ _ w (lh_ rfl) (lh_ rfl) (lh_ rfl) hs h1 h2 (lh_ hc) (lh_ hn)
 have e1:qc4 s=4:=by unfold qc4;simp [hc]
 have e2:fnum s=0:=by unfold fnum;simp [hc]
 rw [e1,e2]
 exact qS8 s _ _ _ w (lh_ rfl) (lh_ rfl) (lh_ rfl) hs h1 h2 (lh_ hc) (lh_ hn)
theorem qg3 (s:ByteArray) (z:Rat) (c:Int) (w:World) (hz:fnum s=z) (hc:qc4 s=c) (hs:s.size≤9223372036854775807) :
  CB 152 #[.string s] w (.tuple #[(Value.agg #[.int .u64 (lo z.num.natAbs),.string (bg z.num.natAbs),.bool (z.num<0),.int .u64 (lo (z.den - 1)),.string (bg (z.den - 1))]),.int .i64 c]):=hz ▸ hc ▸ qL6 s w hs
end
end Go.Proofs.YtobojnodohjiaaaGreatDoor
