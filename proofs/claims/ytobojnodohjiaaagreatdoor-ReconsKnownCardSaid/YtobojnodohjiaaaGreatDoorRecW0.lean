
/- gussetlaw07: of, frac, back, joined. -/
import Derived.Test.YtobojnodohjiaaaGreatDoorRecC
import Derived.Test.YtobojnodohjiaaaGreatDoorRecE
import Derived.Test.YtobojnodohjiaaaGreatDoorHp2
import Derived.Test.YtobojnodohjiaaaGreatDoorRsP
set_option maxRecDepth 100000
set_option maxHeartbeats 16000000
set_option linter.unusedVariables false
set_option linter.unusedSimpArgs false
namespace Go.Proofs.YtobojnodohjiaaaGreatDoor
open Go.RowKit
attribute [local go_sem ↓] Go.wp_at_zero Go.wp_at_succ
attribute [local go_sem ↓] qb8 qa3 qc8
attribute [local go_sem ↓] qb8 qa3 qd9 qb7
theorem rs0 (w:World) (f:Nat→Int × Nat):Rs w (.slice none 0 0) 0 f:=.inl ⟨none,0,rfl,rfl⟩
theorem qf6:(Tryz.prog.info? 71).map (fun i=>(i.zero,i.size,i.bytes))=some (some (.agg #[.int .u64 0,.string ⟨#[]⟩,.bool false,.int .u64 0,.string ⟨#[]⟩]),5,56):=by kernel_rfl
theorem rsz2 {r1 r2:Int} {m1 m2:Nat} (h1:wl r1.natAbs≤2) (h2:wl r2.natAbs≤2) (h3:wl m1≤1) (h4:wl m2≤1):∀ i,i<2→wl (f2r r1 m1 r2 m2 i).1.natAbs≤100∧wl (f2r r1 m1 r2 m2 i).2≤10 :=
 qg7 (P:=fun i=>wl (f2r r1 m1 r2 m2 i).1.natAbs≤100∧wl (f2r r1 m1 r2 m2 i).2≤10) ⟨Nat.le_trans h1 (by decide),Nat.le_trans h3 (by decide)⟩ ⟨Nat.le_trans h2 (by decide),Nat.le_trans h4 (by decide)⟩
theorem xt5 (q:Rat) (s:ByteArray) (w:World) (h:ftx q=s) (hs:sz q≤100000) (HT:Hid (Tab w)) :
  Calls Tryz.prog 153 #[(Value.agg #[.int .u64 (lo q.num.natAbs),.string (bg q.num.natAbs),.bool (q.num<0),.int .u64 (lo (q.den - 1)),.string (bg (q.den - 1))])] w fun e w'=>e=.returned (.string s)∧Below w.heap.size w w':=h ▸ qy_ q w hs HT
theorem qs0 (r:Int) (m:Nat) (w:World) (h1:-9223372036854775808≤r) (h2:r≤9223372036854775807) (h3:m<4294967296) :
  Calls Tryz.prog 28 #[(Value.agg #[.int .i64 r,.int .u32 (((m:Nat):Int))])] w fun e w'=>e=.returned ((.agg #[.int .u64 (lo r.natAbs),.string (bg r.natAbs),.bool (r<0),.int .u64 (lo m),.string (bg m)]))∧Below w.heap.size w w':=by
 have hwl1:wl m≤1:=qa6 h3
 have hwm:IntKind.u64.wrap ((m:Nat):Int)=((m:Nat):Int):=by rw [IntKind.wrap_u64];omega
 go_enter Tryz.func28,Tryz.ntmps28
 have I:=lh_ (hp0 w)
 refine kS fun K O=>?_
 refine wp_region_lit ?_
 go_wp2
 refine kF_ O (((I.out).aL (w.heap.size)).aL (w.heap.size+1)) fun Wx0 J=>?_;clear O K
 clear I;have I:=J;clear J
 generalize w.heap.size+1=gx1 at *
 have su1:wl r.natAbs≤2:=qi6 om om
 have lx0:=kc0_ I
 refine kS fun K O=>?_
 refine xH0 fun T Y=>?_
 iterate 5 refine tk ?_
 refine ck Tryz.call23 (fun w' hw=>qd3 r _ om om) ?_
 refine ck Tryz.call24 (fun w' hw=>nzof m _ ok) ?_
 refine tk ?_
 refine nlD Y I fun vw1 J=>?_
 clear Y T I lx0
 have lx1:=kc1_ J;have fx1:=kf1_ J
 have r0:=Gr.refl vw1
 go_wp2
 refine kO O ?_;clear O K
 clear r0 lx1 fx1
 refine fH (((((J.out).put2 1 0 rfl).put2 1 2 rfl).put 1 4 _ rfl).er 0) fun Wx1 I=>?_
 clear J
 refine wp_ret ?_
 try simp only [Exit.then,Exit.inBlock]
 have lx1:=kc0_ I
 have r0:=Gr.refl Wx1
 exact bodyPost_ret (v:=.agg #[.int .u64 (lo r.natAbs),.string (bg r.natAbs),.bool (r<0),.int .u64 (lo m),.string (bg m)]) (by simp [results,Tryz.results28,go_sem,lx1 _ r0]) rfl ⟨rfl,I.out.1⟩
theorem qp1 (n d:Int) (z:Rat) (w:World) (HZ:Hid ((n:Rat) / (d:Rat)=z)) (hd:d≠0) (h1:-9223372036854775808≤n) (h2:n≤9223372036854775807) (h3:-9223372036854775808≤d) (h4:d≤9223372036854775807) :
  Calls Tryz.prog 26 #[.int .i64 n,.int .i64 d] w fun e w'=>e=.returned (.agg #[.int .u64 (lo z.num.natAbs),.string (bg z.num.natAbs),.bool (z.num<0),.int .u64 (lo (z.den - 1)),.string (bg (z.den - 1))])∧Below w.heap.size w w':=by
 go_enter Tryz.func26,Tryz.ntmps26
 have I:=lh_ (hp0 w)
 refine kS fun K O=>?_
 refine wp_region_lit ?_
 go_wp2
 refine kF_ O ((I.out).aL (w.heap.size)) fun Wx0 J=>?_;clear O K
 clear I;have I:=J;clear J
 have HZ1:Hid (((n:Int):Rat) / ((d:Int):Rat)=z):=lh_ (HZ.out)
 have su1:sz z≤4:=by have e:=HZ1.out;first|omega|(rw [← e];exact qs9 n d om om om om)
 refine ks6_ fun K O T Y=>?_
 refine tk2_ ?_
 refine ck Tryz.call104 (fun w' hw=>qR9 n d z _ HZ1.out (by first|decide|omega) om om om om) ?_
 refine tk3_ ?_
 refine nlS Y I fun vw1 J=>?_
 clear Y T I
 go_wp2
 refine kF_ O ((J.out).aL (vw1.heap.size)) fun Wx1 I=>?_;clear O K
 clear J
 generalize vw1.heap.size=gx2 at *
 have lx2:=kc1_ I
 refine ks1_ fun K O T Y=>?_
 refine tk ?_
 refine nlS Y I fun vw2 J=>?_
 clear Y T I lx2
 have lx0:=kc0_ J;have fx0:=kf0_ J
 have r0:=Gr.refl vw2
 go_wp2
 refine kO O ?_;clear O K
 clear r0 lx0 fx0
 refine fH (((((J.out).put2 0 0 rfl).put2 0 2 rfl).put 0 4 _ rfl).er 1) fun Wx2 I=>?_
 clear J
 refine wp_ret ?_
 try simp only [Exit.then,Exit.inBlock]
 have lx0:=kc0_ I
 have r0:=Gr.refl Wx2
 exact bodyPost_ret (v:=.agg #[.int .u64 (lo z.num.natAbs),.string (bg z.num.natAbs),.bool (z.num<0),.int .u64 (lo (z.den - 1)),.string (bg (z.den - 1))]) (by simp [results,Tryz.results26,go_sem,lx0 _ r0]) rfl ⟨rfl,I.out.1⟩
theorem qt5 (a:Int) (m:Nat) (z:Rat) (t:ByteArray) (w:World) (HBX:Hid (bk a m z true)) (HTX:Hid (ftx z=t)) (h1:-9223372036854775808≤a) (h2:a≤9223372036854775807) (h3:m<18446744073709551616) (hwm2:wl m≤2) (HT:Hid (Tab w)) :
  Calls Tryz.prog 105 #[.int .i64 a,.int .u64 (((m:Nat):Int))] w fun e w'=>e=.returned ((.string t))∧Below w.heap.size w w':=by
 go_enter Tryz.func105,Tryz.ntmps105
 have I:=lh_ (hp0 w)
 refine kS fun K O=>?_
 refine wp_region_lit ?_
 go_wp2
 refine kF_ O (I.out) fun Wx0 J=>?_;clear O K
 clear I;have I:=J;clear J
 have su1:wl a.natAbs≤2:=qi6 om om
 have su2:sz z≤2:=qj8 (HBX.out) om (by decide)
 refine ks8_ fun K O T Y=>?_
 refine tk ?_
 refine ck Tryz.call23 (fun w' hw=>qd3 a _ om om) ?_
 refine tk ?_
 refine ck Tryz.call24 (fun w' hw=>nzof m _ ok) ?_
 refine ck Tryz.call22 (fun w' hw=>qt3 a m z true _ (HBX.out) om om) ?_
 refine tk3_ ?_
 refine nlS Y I fun vw1 J=>?_
 clear Y T I
 go_wp2
 refine kF_ O ((J.out).aL (vw1.heap.size)) fun Wx1 I=>?_;clear O K
 clear J
 generalize vw1.heap.size=gx1 at *
 refine wp_seq ?_
 refine ks2_ fun K O T Y=>?_
 refine tk2_ ?_
 refine nlS Y I fun vw2 J=>?_
 clear Y T I
 go_wp2
 refine kO O ?_;clear O K
 have I:=J;clear J
 refine wp_cond_false (by rfl) ?_
 refine wp_skip ?_
 show Code.wp _ _ _ _ _
 have HB:=HPb I
 have lx1:=kc0_ I
 refine ks3_ fun K O T Y=>?_
 refine tk ?_
 refine ck Tryz.call153 (fun w' hw=>xt5 z t _ HTX.out om (lh_ (HT.out.gr (Gr.trans HB.out hw)))) ?_
 refine tk ?_
 refine nlS Y I fun vw3 J=>?_
 clear Y T I lx1 HB
 go_wp2
 refine kF_ O ((J.out).er 0) fun Wx4 I=>?_;clear O K
 clear J
 refine wp_ret ?_
 try simp only [Exit.then,Exit.inBlock]
 exact bodyPost_ret (v:=.string t) (by simp [results,Tryz.results105,go_sem]) rfl ⟨rfl,I.out.1⟩
theorem qP3 (a:Int) (m:Nat) (w:World) (HBX:Hid (bk a m 0 false)) (h1:-9223372036854775808≤a) (h2:a≤9223372036854775807) (h3:m<18446744073709551616) (hwm2:wl m≤2) :
  Calls Tryz.prog 105 #[.int .i64 a,.int .u64 (((m:Nat):Int))] w fun e w'=>e=.returned ((.string ⟨#[110,111,110,101]⟩))∧Below w.heap.size w w':=by
 go_enter Tryz.func105,Tryz.ntmps105
 have I:=lh_ (hp0 w)
 refine kS fun K O=>?_
 refine wp_region_lit ?_
 go_wp2
 refine kF_ O (I.out) fun Wx0 J=>?_;clear O K
 clear I;have I:=J;clear J
 have su1:wl a.natAbs≤2:=qi6 om om
 refine ks8_ fun K O T Y=>?_
 refine tk ?_
 refine ck Tryz.call23 (fun w' hw=>qd3 a _ om om) ?_
 refine tk ?_
 refine ck Tryz.call24 (fun w' hw=>nzof m _ ok) ?_
 refine ck Tryz.call22 (fun w' hw=>qt3 a m 0 false _ (HBX.out) om om) ?_
 refine tk3_ ?_
 refine nlS Y I fun vw1 J=>?_
 clear Y T I
 go_wp2
 refine kF_ O ((J.out).aL (vw1.heap.size)) fun Wx1 I=>?_;clear O K
 clear J
 generalize vw1.heap.size=gx1 at *
 refine wp_seq ?_
 refine ks2_ fun K O T Y=>?_
 refine tk2_ ?_
 refine nlS Y I fun vw2 J=>?_
 clear Y T I
 go_wp2
 refine kO O ?_;clear O K
 have I:=J;clear J
 refine wp_cond_true (by rfl) ?_
 refine kS fun K O=>?_
 refine wp_region_lit ?_
 go_wp2
 refine kF_ O (I.out) fun Wx3 J=>?_;clear O K
 clear I;have I:=J;clear J
 refine wp_ret ?_
 try simp only [Exit.then,Exit.inBlock]
 exact bodyPost_ret (v:=.string ⟨#[110,111,110,101]⟩) (by simp [results,Tryz.results105,go_sem]) rfl ⟨rfl,I.out.1⟩
theorem qH1 (r1 r2:Int) (m1 m2 g:Nat) (R:Int) (M:Nat) (tr tm t1 t:ByteArray) (w:World) (bx9:Bx w g 69 #[.int .i64 r1,.int .u32 (((m1:Nat):Int)),.int .i64 r2,.int .u32 (((m2:Nat):Int))]) (h11:-9223372036854775808≤r1) (h12:r1≤9223372036854775807) (h13:m1<4294967296) (h21:-9223372036854775808≤r2) (h22:r2≤9223372036854775807) (h23:m2<4294967296) (HCV:Hid (chv (f2r r1 m1 r2 m2) 2 R M 0)) (hwR:wl R.natAbs≤20) (hwM:wl M≤20) (HTR:Hid (itx R=tr)) (HTM:Hid ((⟨(Lib.decDigits M).toArray⟩:ByteArray)=tm)) (HT1:Hid (tr ++ (⟨#[32,98,121,32]⟩:ByteArray)=t1)) (HT2:Hid (t1 ++ tm=t)) (hl1:tr.size≤1000) (hl2:t1.size≤1000) (hl3:tm.size≤1000) (HT:Hid (Tab w)) :
  Calls Tryz.prog 106 #[.slice (some ⟨g,0,none⟩) 2 2] w fun e w'=>e=.returned ((.string t))∧Below w.heap.size w w':=by
 have hwu1:IntKind.u64.wrap ((m1:Nat):Int)=((m1:Nat):Int):=by rw [IntKind.wrap_u64];omega
 have hwu2:IntKind.u64.wrap ((m2:Nat):Int)=((m2:Nat):Int):=by rw [IntKind.wrap_u64];omega
 have hw1:IntKind.i64.wrap 1=1:=by decide
 have hw2:IntKind.i64.wrap 2=2:=by decide
 go_enter Tryz.func106,Tryz.ntmps106
 have I:=lh_ (hp0 w)
 have BX9:=lh_ bx9;clear bx9
 refine kS fun K O=>?_
 refine wp_region_lit ?_
 go_wp2
 refine kF_ O (I.out) fun Wx0 J=>?_;clear O K
 clear I;have I:=J;clear J
 refine kS fun K O=>?_
 refine wp_region_lit ?_
 go_wp2
 refine kF_ O (I.out) fun Wx1 J=>?_;clear O K
 clear I;have I:=J;clear J
 refine wp_seq ?_
 refine kS fun K O=>?_
 refine wp_region_lit ?_
 go_wp2
 refine kF_ O (I.out) fun Wx2 J=>?_;clear O K
 clear I;have I:=J;clear J
 refine wp_block ?_
 refine wp_loop_rounds 4 ?_
 rw [rounds_succ]
 refine wp_seq ?_
 refine ks4_ fun K O T Y=>?_
 iterate 4 refine tk ?_
 refine nlS Y I fun vw1 J=>?_
 clear Y T I
 go_wp2
 refine kO O ?_;clear O K
 have I:=J;clear J
 refine wp_cond_true (by rfl) ?_
 refine wp_skip ?_
 show Code.wp _ _ _ _ _
 refine wp_seq ?_
 refine wp_block ?_
 have su1a:wl r1.natAbs≤2:=qi6 om om
 have su1b:wl m1≤1:=qa6 om
 have lx9:=(BX9.out.gr I.out.1).cells
 refine kL fun K O=>?_
 have HG0:Hid (Gr vw1 vw1):=lh_ (Gr.refl _)
 refine qx3 fun T Y=>?_
 iterate 5 refine tk ?_
 refine ck Tryz.call28 (fun w' hw=>qs0 r1 m1 _ om om om) ?_
 refine qd1 (cs:=#[.int .u64 (lo r1.natAbs),.string (bg r1.natAbs),.bool (r1<0),.int .u64 (lo m1),.string (bg m1)]) (E:=71) (n:=1) rfl (by rfl) (fun w' hw=>?_) (fun gx11 vv11 hg0 yx11 bx11=>?_)
 ·go_simp
 have YX11:=lh_ (Nat.le_trans HG0.out.size yx11)
 clear yx11
 replace HG0:=lh_ (HG0.out.trans hg0)
 have HGS:=lh_ hg0;clear hg0
 clear HGS
 have BX11:=lh_ bx11;clear bx11
 clear lx9;have lx9:=fun w' (h:Gr _ w')=>(BX9.out.gr I.out.1).cells w' (HG0.out.trans h)
 simp only [Act.put,lA,lB,lC]
 refine qa0 (Y.out _ _ ?_)
 intro vw2 hg
 simp only [puts,Act.put,lA,lB,lC,lD,lE,↓reduceIte,Nat.reduceEqDiff]
 have J:=lh_ (I.out.grS (HG0.out.trans hg) YX11.out (BX11.out.gr hg) (by decide))
 simp only [zq1_,zq2_,zq3_,zq4_,lF,lG] at J
 clear Y T I hg HG0 BX11 lx9
 clear YX11
 obtain ⟨ai1,ah1,az1,as1,ab1⟩:=info_parts (qf6)
 refine apN (m:=1) (c:=1) J 0 (.tmp 13) (.tmp 19) 67 ah1 az1 as1 ab1 rfl Tryz.underlying67 (by unfold maxLen;omega) om (fun bR1 cR1 vR1 vw2a I RV1=>?_)
 clear J;have J:=I;clear I
 simp only [Act.put,lA,lB,lC,List.cons_append,List.nil_append,List.append_eq,List.eraseIdx_cons_zero,List.eraseIdx_cons_succ]
 simp only [List.cons_append,List.nil_append,List.eraseIdx_cons_zero,List.eraseIdx_cons_succ] at J
 go_wp2
 refine kO O ?_;clear O K
 have I:=J;clear J
 refine kL fun K O=>?_
 refine sq3_ fun T Y=>?_
 refine tk3_ ?_
 refine nlS Y I fun vw3 J=>?_
 clear Y T I
 go_wp2
 refine O.out _ _ ?_;clear O K
 show Code.rounds _ _ _ _ _ _
 rw [rounds_succ]
 have I:=J;clear J
 refine wp_seq ?_
 refine ks4_ fun K O T Y=>?_
 iterate 4 refine tk ?_
 refine nlS Y I fun vw4 J=>?_
 clear Y T I
 go_wp2
 refine kO O ?_;clear O K
 have I:=J;clear J
 refine wp_cond_true (by rfl) ?_
 refine wp_skip ?_
 show Code.wp _ _ _ _ _
 refine wp_seq ?_
 refine wp_block ?_
 have su2a:wl r2.natAbs≤2:=qi6 om om
 have su2b:wl m2≤1:=qa6 om
 have lx9:=(BX9.out.gr I.out.1).cells
 refine kL fun K O=>?_
 have HG0:Hid (Gr vw4 vw4):=lh_ (Gr.refl _)
 refine qx3 fun T Y=>?_
 iterate 5 refine tk ?_
 refine ck Tryz.call28 (fun w' hw=>qs0 r2 m2 _ om om om) ?_
 refine qd1 (cs:=#[.int .u64 (lo r2.natAbs),.string (bg r2.natAbs),.bool (r2<0),.int .u64 (lo m2),.string (bg m2)]) (E:=71) (n:=1) rfl (by rfl) (fun w' hw=>?_) (fun gx13 vv13 hg0 yx13 bx13=>?_)
 ·go_simp
 have YX13:=lh_ (Nat.le_trans HG0.out.size yx13)
 clear yx13
 replace HG0:=lh_ (HG0.out.trans hg0)
 have HGS:=lh_ hg0;clear hg0
 clear HGS
 have BX13:=lh_ bx13;clear bx13
 clear lx9;have lx9:=fun w' (h:Gr _ w')=>(BX9.out.gr I.out.1).cells w' (HG0.out.trans h)
 simp only [Act.put,lA,lB,lC]
 refine qa0 (Y.out _ _ ?_)
 intro vw5 hg
 simp only [puts,Act.put,lA,lB,lC,lD,lE,↓reduceIte,Nat.reduceEqDiff]
 have J:=lh_ (I.out.grS (HG0.out.trans hg) YX13.out (BX13.out.gr hg) (by decide))
 simp only [zq1_,zq2_,zq3_,zq4_,lF,lG] at J
 clear Y T I hg HG0 BX13 lx9
 clear YX13
 obtain ⟨ai2,ah2,az2,as2,ab2⟩:=info_parts (qf6)
 refine apS (m:=1) (c:=1) J RV1 1 2 (.tmp 13) (.tmp 19) 67 ah2 az2 as2 ab2 rfl Tryz.underlying67 (by unfold maxLen;omega) om (fun bR2 cR2 vR2 vw5a I RV2=>?_)
 clear J RV1;have J:=I;clear I
 simp only [Act.put,lA,lB,lC,List.cons_append,List.nil_append,List.append_eq,List.eraseIdx_cons_zero,List.eraseIdx_cons_succ]
 simp only [List.cons_append,List.nil_append,List.eraseIdx_cons_zero,List.eraseIdx_cons_succ] at J RV2
 go_wp2
 refine kF_ O ((J.out).er 0) fun Wx5 I=>?_;clear O K
 clear J
 refine kL fun K O=>?_
 refine sq3_ fun T Y=>?_
 refine tk3_ ?_
 refine nlS Y I fun vw6 J=>?_
 clear Y T I
 go_wp2
 refine O.out _ _ ?_;clear O K
 show Code.rounds _ _ _ _ _ _
 rw [rounds_succ]
 have I:=J;clear J
 refine wp_seq ?_
 refine ks4_ fun K O T Y=>?_
 iterate 4 refine tk ?_
 refine nlS Y I fun vw7 J=>?_
 clear Y T I
 go_wp2
 refine kO O ?_;clear O K
 have I:=J;clear J
 refine wp_cond_false (by rfl) ?_
 refine wp_exit ?_
 show Code.wp _ _ _ _ _
 have su3a:wl R.natAbs≤20:=om
 have su3b:wl M≤20:=om
 refine ks5_ fun K O T Y=>?_
 refine tk ?_
 refine ck Tryz.call29 (fun w' hw=>qe7 _ 2 (f2r r1 m1 r2 m2) R M (0) _ HCV.out (qs2 (f:=(f2r r1 m1 r2 m2)) RV2.out ((I.out.bx 1 rfl).gr hw)) om (rsz2 om om om om)) ?_
 refine tk3_ ?_
 refine nlS Y I fun vw8 J=>?_
 clear Y T I
 go_wp2
 refine kF_ O ((((J.out).aL (vw8.heap.size)).er 1).er 0) fun Wx6 I=>?_;clear O K
 clear J
 generalize vw8.heap.size=gx15 at *
 refine wp_seq ?_
 refine ks2_ fun K O T Y=>?_
 refine tk2_ ?_
 refine nlS Y I fun vw9 J=>?_
 clear Y T I
 go_wp2
 refine kO O ?_;clear O K
 have I:=J;clear J
 refine wp_cond_false (by rfl) ?_
 refine wp_skip ?_
 show Code.wp _ _ _ _ _
 have HB:=HPb I
 have hlen1:¬ (9223372036854775807<tr.size+4):=by omega
 have hcat1:tr ++ (⟨#[32,98,121,32]⟩:ByteArray)=t1:=HT1.out
 have hlen2:¬ (9223372036854775807<t1.size+tm.size):=by omega
 have hcat2:t1 ++ tm=t:=HT2.out
 have lx15:=kc0_ I
 refine kS fun K O=>?_
 refine xy6 fun T Y=>?_
 iterate 4 refine tk ?_
 refine ck Tryz.call141 (fun w' hw=>qJ1 R tr _ HTR.out om (lh_ (HT.out.gr (Gr.trans HB.out hw)))) ?_
 refine tk ?_
 refine ck Tryz.call154 (fun w' hw=>qD1 M tm _ HTM.out om (lh_ (HT.out.gr (Gr.trans HB.out hw)))) ?_
 refine tk ?_
 refine nlD Y I fun vw10 J=>?_
 clear Y T I lx15 HB
 go_wp2
 refine kF_ O ((J.out).er 0) fun Wx9 I=>?_;clear O K
 clear J
 clear hlen1 hcat1 hlen2 hcat2
 refine wp_ret ?_
 try simp only [Exit.then,Exit.inBlock]
 exact bodyPost_ret (v:=.string t) (by simp [results,Tryz.results106,go_sem]) rfl ⟨rfl,I.out.1⟩
theorem qT0 (r1 r2:Int) (m1 m2 g:Nat) (w:World) (bx9:Bx w g 69 #[.int .i64 r1,.int .u32 (((m1:Nat):Int)),.int .i64 r2,.int .u32 (((m2:Nat):Int))]) (h11:-9223372036854775808≤r1) (h12:r1≤9223372036854775807) (h13:m1<4294967296) (h21:-9223372036854775808≤r2) (h22:r2≤9223372036854775807) (h23:m2<4294967296) (HCV:Hid (chv (f2r r1 m1 r2 m2) 2 0 0 6)) :
  Calls Tryz.prog 106 #[.slice (some ⟨g,0,none⟩) 2 2] w fun e w'=>e=.returned ((.string ⟨#[110,111,110,101]⟩))∧Below w.heap.size w w':=by
 have hwu1:IntKind.u64.wrap ((m1:Nat):Int)=((m1:Nat):Int):=by rw [IntKind.wrap_u64];omega
 have hwu2:IntKind.u64.wrap ((m2:Nat):Int)=((m2:Nat):Int):=by rw [IntKind.wrap_u64];omega
 have hw1:IntKind.i64.wrap 1=1:=by decide
 have hw2:IntKind.i64.wrap 2=2:=by decide
 go_enter Tryz.func106,Tryz.ntmps106
 have I:=lh_ (hp0 w)
 have BX9:=lh_ bx9;clear bx9
 refine kS fun K O=>?_
 refine wp_region_lit ?_
 go_wp2
 refine kF_ O (I.out) fun Wx0 J=>?_;clear O K
 clear I;have I:=J;clear J
 refine kS fun K O=>?_
 refine wp_region_lit ?_
 go_wp2
 refine kF_ O (I.out) fun Wx1 J=>?_;clear O K
 clear I;have I:=J;clear J
 refine wp_seq ?_
 refine kS fun K O=>?_
 refine wp_region_lit ?_
 go_wp2
 refine kF_ O (I.out) fun Wx2 J=>?_;clear O K
 clear I;have I:=J;clear J
 refine wp_block ?_
 refine wp_loop_rounds 4 ?_
 rw [rounds_succ]
 refine wp_seq ?_
 refine ks4_ fun K O T Y=>?_
 iterate 4 refine tk ?_
 refine nlS Y I fun vw1 J=>?_
 clear Y T I
 go_wp2
 refine kO O ?_;clear O K
 have I:=J;clear J
 refine wp_cond_true (by rfl) ?_
 refine wp_skip ?_
 show Code.wp _ _ _ _ _
 refine wp_seq ?_
 refine wp_block ?_
 have su1a:wl r1.natAbs≤2:=qi6 om om
 have su1b:wl m1≤1:=qa6 om
 have lx9:=(BX9.out.gr I.out.1).cells
 refine kL fun K O=>?_
 have HG0:Hid (Gr vw1 vw1):=lh_ (Gr.refl _)
 refine qx3 fun T Y=>?_
 iterate 5 refine tk ?_
 refine ck Tryz.call28 (fun w' hw=>qs0 r1 m1 _ om om om) ?_
 refine qd1 (cs:=#[.int .u64 (lo r1.natAbs),.string (bg r1.natAbs),.bool (r1<0),.int .u64 (lo m1),.string (bg m1)]) (E:=71) (n:=1) rfl (by rfl) (fun w' hw=>?_) (fun gx11 vv11 hg0 yx11 bx11=>?_)
 ·go_simp
 have YX11:=lh_ (Nat.le_trans HG0.out.size yx11)
 clear yx11
 replace HG0:=lh_ (HG0.out.trans hg0)
 have HGS:=lh_ hg0;clear hg0
 clear HGS
 have BX11:=lh_ bx11;clear bx11
 clear lx9;have lx9:=fun w' (h:Gr _ w')=>(BX9.out.gr I.out.1).cells w' (HG0.out.trans h)
 simp only [Act.put,lA,lB,lC]
 refine qa0 (Y.out _ _ ?_)
 intro vw2 hg
 simp only [puts,Act.put,lA,lB,lC,lD,lE,↓reduceIte,Nat.reduceEqDiff]
 have J:=lh_ (I.out.grS (HG0.out.trans hg) YX11.out (BX11.out.gr hg) (by decide))
 simp only [zq1_,zq2_,zq3_,zq4_,lF,lG] at J
 clear Y T I hg HG0 BX11 lx9
 clear YX11
 obtain ⟨ai1,ah1,az1,as1,ab1⟩:=info_parts (qf6)
 refine apN (m:=1) (c:=1) J 0 (.tmp 13) (.tmp 19) 67 ah1 az1 as1 ab1 rfl Tryz.underlying67 (by unfold maxLen;omega) om (fun bR1 cR1 vR1 vw2a I RV1=>?_)
 clear J;have J:=I;clear I
 simp only [Act.put,lA,lB,lC,List.cons_append,List.nil_append,List.append_eq,List.eraseIdx_cons_zero,List.eraseIdx_cons_succ]
 simp only [List.cons_append,List.nil_append,List.eraseIdx_cons_zero,List.eraseIdx_cons_succ] at J
 go_wp2
 refine kO O ?_;clear O K
 have I:=J;clear J
 refine kL fun K O=>?_
 refine sq3_ fun T Y=>?_
 refine tk3_ ?_
 refine nlS Y I fun vw3 J=>?_
 clear Y T I
 go_wp2
 refine O.out _ _ ?_;clear O K
 show Code.rounds _ _ _ _ _ _
 rw [rounds_succ]
 have I:=J;clear J
 refine wp_seq ?_
 refine ks4_ fun K O T Y=>?_
 iterate 4 refine tk ?_
 refine nlS Y I fun vw4 J=>?_
 clear Y T I
 go_wp2
 refine kO O ?_;clear O K
 have I:=J;clear J
 refine wp_cond_true (by rfl) ?_
 refine wp_skip ?_
 show Code.wp _ _ _ _ _
 refine wp_seq ?_
 refine wp_block ?_
 have su2a:wl r2.natAbs≤2:=qi6 om om
 have su2b:wl m2≤1:=qa6 om
 have lx9:=(BX9.out.gr I.out.1).cells
 refine kL fun K O=>?_
 have HG0:Hid (Gr vw4 vw4):=lh_ (Gr.refl _)
 refine qx3 fun T Y=>?_
 iterate 5 refine tk ?_
 refine ck Tryz.call28 (fun w' hw=>qs0 r2 m2 _ om om om) ?_
 refine qd1 (cs:=#[.int .u64 (lo r2.natAbs),.string (bg r2.natAbs),.bool (r2<0),.int .u64 (lo m2),.string (bg m2)]) (E:=71) (n:=1) rfl (by rfl) (fun w' hw=>?_) (fun gx13 vv13 hg0 yx13 bx13=>?_)
 ·go_simp
 have YX13:=lh_ (Nat.le_trans HG0.out.size yx13)
 clear yx13
 replace HG0:=lh_ (HG0.out.trans hg0)
 have HGS:=lh_ hg0;clear hg0
 clear HGS
 have BX13:=lh_ bx13;clear bx13
 clear lx9;have lx9:=fun w' (h:Gr _ w')=>(BX9.out.gr I.out.1).cells w' (HG0.out.trans h)
 simp only [Act.put,lA,lB,lC]
 refine qa0 (Y.out _ _ ?_)
 intro vw5 hg
 simp only [puts,Act.put,lA,lB,lC,lD,lE,↓reduceIte,Nat.reduceEqDiff]
 have J:=lh_ (I.out.grS (HG0.out.trans hg) YX13.out (BX13.out.gr hg) (by decide))
 simp only [zq1_,zq2_,zq3_,zq4_,lF,lG] at J
 clear Y T I hg HG0 BX13 lx9
 clear YX13
 obtain ⟨ai2,ah2,az2,as2,ab2⟩:=info_parts (qf6)
 refine apS (m:=1) (c:=1) J RV1 1 2 (.tmp 13) (.tmp 19) 67 ah2 az2 as2 ab2 rfl Tryz.underlying67 (by unfold maxLen;omega) om (fun bR2 cR2 vR2 vw5a I RV2=>?_)
 clear J RV1;have J:=I;clear I
 simp only [Act.put,lA,lB,lC,List.cons_append,List.nil_append,List.append_eq,List.eraseIdx_cons_zero,List.eraseIdx_cons_succ]
 simp only [List.cons_append,List.nil_append,List.eraseIdx_cons_zero,List.eraseIdx_cons_succ] at J RV2
 go_wp2
 refine kF_ O ((J.out).er 0) fun Wx5 I=>?_;clear O K
 clear J
 refine kL fun K O=>?_
 refine sq3_ fun T Y=>?_
 refine tk3_ ?_
 refine nlS Y I fun vw6 J=>?_
 clear Y T I
 go_wp2
 refine O.out _ _ ?_;clear O K
 show Code.rounds _ _ _ _ _ _
 rw [rounds_succ]
 have I:=J;clear J
 refine wp_seq ?_
 refine ks4_ fun K O T Y=>?_
 iterate 4 refine tk ?_
 refine nlS Y I fun vw7 J=>?_
 clear Y T I
 go_wp2
 refine kO O ?_;clear O K
 have I:=J;clear J
 refine wp_cond_false (by rfl) ?_
 refine wp_exit ?_
 show Code.wp _ _ _ _ _
 refine ks5_ fun K O T Y=>?_
 refine tk ?_
 refine ck Tryz.call29 (fun w' hw=>qe7 _ 2 (f2r r1 m1 r2 m2) (0) (0) (6) _ HCV.out (qs2 (f:=(f2r r1 m1 r2 m2)) RV2.out ((I.out.bx 1 rfl).gr hw)) om (rsz2 om om om om)) ?_
 refine tk3_ ?_
 refine nlS Y I fun vw8 J=>?_
 clear Y T I
 go_wp2
 refine kF_ O ((((J.out).aL (vw8.heap.size)).er 1).er 0) fun Wx6 I=>?_;clear O K
 clear J
 generalize vw8.heap.size=gx15 at *
 refine wp_seq ?_
 refine ks2_ fun K O T Y=>?_
 refine tk2_ ?_
 refine nlS Y I fun vw9 J=>?_
 clear Y T I
 go_wp2
 refine kO O ?_;clear O K
 have I:=J;clear J
 refine wp_cond_true (by rfl) ?_
 refine kS fun K O=>?_
 refine wp_region_lit ?_
 go_wp2
 refine kF_ O (I.out) fun Wx8 J=>?_;clear O K
 clear I;have I:=J;clear J
 refine wp_ret ?_
 try simp only [Exit.then,Exit.inBlock]
 exact bodyPost_ret (v:=.string ⟨#[110,111,110,101]⟩) (by simp [results,Tryz.results106,go_sem]) rfl ⟨rfl,I.out.1⟩
theorem xc_  (R:Int) (M:Nat) (tr tm t1 t:ByteArray) (w:World) (HCV:Hid (chv (fun _=>(0,1)) 0 R M 0)) (hwR:wl R.natAbs≤20) (hwM:wl M≤20) (HTR:Hid (itx R=tr)) (HTM:Hid ((⟨(Lib.decDigits M).toArray⟩:ByteArray)=tm)) (HT1:Hid (tr ++ (⟨#[32,98,121,32]⟩:ByteArray)=t1)) (HT2:Hid (t1 ++ tm=t)) (hl1:tr.size≤1000) (hl2:t1.size≤1000) (hl3:tm.size≤1000) (HT:Hid (Tab w)) :
  Calls Tryz.prog 106 #[.slice none 0 0] w fun e w'=>e=.returned ((.string t))∧Below w.heap.size w w':=by
 have hw1:IntKind.i64.wrap 1=1:=by decide
 have hw2:IntKind.i64.wrap 2=2:=by decide
 go_enter Tryz.func106,Tryz.ntmps106
 have I:=lh_ (hp0 w)
 refine kS fun K O=>?_
 refine wp_region_lit ?_
 go_wp2
 refine kF_ O (I.out) fun Wx0 J=>?_;clear O K
 clear I;have I:=J;clear J
 refine kS fun K O=>?_
 refine wp_region_lit ?_
 go_wp2
 refine kF_ O (I.out) fun Wx1 J=>?_;clear O K
 clear I;have I:=J;clear J
 refine wp_seq ?_
 refine kS fun K O=>?_
 refine wp_region_lit ?_
 go_wp2
 refine kF_ O (I.out) fun Wx2 J=>?_;clear O K
 clear I;have I:=J;clear J
 refine wp_block ?_
 refine wp_loop_rounds 4 ?_
 rw [rounds_succ]
 refine wp_seq ?_
 refine ks4_ fun K O T Y=>?_
 iterate 4 refine tk ?_
 refine nlS Y I fun vw1 J=>?_
 clear Y T I
 go_wp2
 refine kO O ?_;clear O K
 have I:=J;clear J
 refine wp_cond_false (by rfl) ?_
 refine wp_exit ?_
 show Code.wp _ _ _ _ _
 have su1a:wl R.natAbs≤20:=om
 have su1b:wl M≤20:=om
 refine ks5_ fun K O T Y=>?_
 refine tk ?_
 refine ck Tryz.call29 (fun w' hw=>qe7 _ 0 (fun _=>(0,1)) R M (0) _ HCV.out (rs0 _ _) om (fun i hi=>absurd hi (Nat.not_lt_zero _))) ?_
 refine tk3_ ?_
 refine nlS Y I fun vw2 J=>?_
 clear Y T I
 go_wp2
 refine kF_ O ((J.out).aL (vw2.heap.size)) fun Wx6 I=>?_;clear O K
 clear J
 generalize vw2.heap.size=gx1 at *
 refine wp_seq ?_
 refine ks2_ fun K O T Y=>?_
 refine tk2_ ?_
 refine nlS Y I fun vw3 J=>?_
 clear Y T I
 go_wp2
 refine kO O ?_;clear O K
 have I:=J;clear J
 refine wp_cond_false (by rfl) ?_
 refine wp_skip ?_
 show Code.wp _ _ _ _ _
 have HB:=HPb I
 have hlen1:¬ (9223372036854775807<tr.size+4):=by omega
 have hcat1:tr ++ (⟨#[32,98,121,32]⟩:ByteArray)=t1:=HT1.out
 have hlen2:¬ (9223372036854775807<t1.size+tm.size):=by omega
 have hcat2:t1 ++ tm=t:=HT2.out
 have lx1:=kc0_ I
 refine kS fun K O=>?_
 refine xy6 fun T Y=>?_
 iterate 4 refine tk ?_
 refine ck Tryz.call141 (fun w' hw=>qJ1 R tr _ HTR.out om (lh_ (HT.out.gr (Gr.trans HB.out hw)))) ?_
 refine tk ?_
 refine ck Tryz.call154 (fun w' hw=>qD1 M tm _ HTM.out om (lh_ (HT.out.gr (Gr.trans HB.out hw)))) ?_
 refine tk ?_
 refine nlD Y I fun vw4 J=>?_
 clear Y T I lx1 HB
 go_wp2
 refine kF_ O ((J.out).er 0) fun Wx9 I=>?_;clear O K
 clear J
 clear hlen1 hcat1 hlen2 hcat2
 refine wp_ret ?_
 try simp only [Exit.then,Exit.inBlock]
 exact bodyPost_ret (v:=.string t) (by simp [results,Tryz.results106,go_sem]) rfl ⟨rfl,I.out.1⟩
end Go.Proofs.YtobojnodohjiaaaGreatDoor
