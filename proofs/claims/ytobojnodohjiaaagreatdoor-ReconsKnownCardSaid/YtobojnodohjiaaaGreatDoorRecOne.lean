
/- ReconsOne: the law's walk. -/
import Derived.Test.YtobojnodohjiaaaGreatDoorRecW
import Derived.Test.YtobojnodohjiaaaGreatDoorGreatP
import Derived.Test.YtobojnodohjiaaaGreatDoorHp2
import Derived.Test.YtobojnodohjiaaaGreatDoorLawZ2
set_option maxRecDepth 100000
set_option maxHeartbeats 16000000
set_option linter.unusedVariables false
set_option linter.unusedSimpArgs false
namespace Go.Proofs.YtobojnodohjiaaaGreatDoor
open Go.RowKit
attribute [local go_sem ↓] Go.wp_at_zero Go.wp_at_succ
attribute [local go_sem ↓] qb8 qa3 qc8 qd9 qb7
attribute [local go_sem] Instr.field asAgg
theorem xe5 (bbxn:Bool) (vxn:Value) (kxn:Nat) (fxn:Nat→Nat) (mxn:Nat) (ixn:Int) (vxd:Value) (kxd:Nat) (fxd:Nat→Nat) (mxd:Nat) (a:Rat) (bbyn:Bool) (vyn:Value) (kyn:Nat) (fyn:Nat→Nat) (myn:Nat) (iyn:Int) (vyd:Value) (kyd:Nat) (fyd:Nat→Nat) (myd:Nat) (c:Rat) (vm:Value) (km:Nat) (fm:Nat→Nat) (n:Nat) (t t2 t3:Int) (z1 nz:Rat) (b1:Bool) (w:World) (HWxn:Hid (Wa w vxn kxn fxn)) (HFxn:Hid (∀ i,i<kxn→fxn i<4294967296)) (HVxn:Hid (vl fxn kxn=mxn)) (HAxn:Hid ((if bbxn then -((mxn:Nat):Int) else ((mxn:Nat):Int))=ixn)) (HWxd:Hid (Wa w vxd kxd fxd)) (HFxd:Hid (∀ i,i<kxd→fxd i<4294967296)) (HVxd:Hid (vl fxd kxd=mxd)) (HQx:Hid (mkRat ixn (mxd+1)=a)) (HWyn:Hid (Wa w vyn kyn fyn)) (HFyn:Hid (∀ i,i<kyn→fyn i<4294967296)) (HVyn:Hid (vl fyn kyn=myn)) (HAyn:Hid ((if bbyn then -((myn:Nat):Int) else ((myn:Nat):Int))=iyn)) (HWyd:Hid (Wa w vyd kyd fyd)) (HFyd:Hid (∀ i,i<kyd→fyd i<4294967296)) (HVyd:Hid (vl fyd kyd=myd)) (HQy:Hid (mkRat iyn (myd+1)=c)) (HWm:Hid (Wa w vm km fm)) (HFm:Hid (∀ i,i<km→fm i<4294967296)) (HVm:Hid (vl fm km=n)) (hkxn:kxn≤2) (hkxd:kxd≤2) (hkyn:kyn≤2) (hkyd:kyd≤2) (hkm:km≤6) (ht1:-9223372036854775808≤t) (ht2:t≤9223372036854775807) (HB1:Hid (bk t n z1 b1)) (HP2:Hid (t+((n:Nat):Int)=t2)) (HB2:Hid (bk t2 n z1 b1)) (HP3:Hid (-t=t3)) (HNZ:Hid (-z1=nz)) (HB3:Hid (bk t3 n nz b1)) (HT:Hid (Tab w)) :
  Calls Tryz.prog 8 #[.agg #[.bool bbxn,vxn,vxd],.agg #[.bool bbyn,vyn,vyd],vm,.int .i64 t] w fun e w'=>e=.returned (.bool true)∧Below w.heap.size w w':=by
 obtain ⟨ao_xn,c_xn,rfl⟩:=HWxn.out.slice
 obtain ⟨ao_xd,c_xd,rfl⟩:=HWxd.out.slice
 have hm_xn:wl mxn≤2:=by rw [← HVxn.out];have:=qb1.2 (qh4 HFxn.out);omega
 have hm_xd:wl mxd≤2:=by rw [← HVxd.out];have:=qb1.2 (qh4 HFxd.out);omega
 have hi_x:wl (Int.natAbs ixn)≤2:=by rw [qB2 HAxn.out];exact hm_xn
 have hs_x:sz a≤3:=by rw [← HQx.out];exact qx4 hi_x hm_xd
 obtain ⟨ao_yn,c_yn,rfl⟩:=HWyn.out.slice
 obtain ⟨ao_yd,c_yd,rfl⟩:=HWyd.out.slice
 have hm_yn:wl myn≤2:=by rw [← HVyn.out];have:=qb1.2 (qh4 HFyn.out);omega
 have hm_yd:wl myd≤2:=by rw [← HVyd.out];have:=qb1.2 (qh4 HFyd.out);omega
 have hi_y:wl (Int.natAbs iyn)≤2:=by rw [qB2 HAyn.out];exact hm_yn
 have hs_y:sz c≤3:=by rw [← HQy.out];exact qx4 hi_y hm_yd
 obtain ⟨ao_m,c_m,rfl⟩:=HWm.out.slice
 have hb_n:wl n≤6:=by rw [← HVm.out];have:=qb1.2 (qh4 HFm.out);omega
 go_enter Tryz.func8,Tryz.ntmps8
 have I:=lh_ (hp0 w)
 refine kS fun K O=>?_
 refine wp_region_lit ?_
 go_wp2
 refine kF_ O (((I.out).aL (w.heap.size)).aL (w.heap.size+1)) fun Wx0 J=>?_;clear O K
 clear I;have I:=J;clear J
 generalize w.heap.size+1=gx1 at *
 refine wp_seq ?_
 have hd1:¬ (2<((kxn:Int))):=ok
 have hd2:¬ (2<((kxd:Int))):=ok
 have hd3:¬ (2<((kyn:Int))):=ok
 have hd4:¬ (2<((kyd:Int))):=ok
 have hd5:¬ (6<((km:Int))):=ok
 have lx0:=kc0_ I
 have lx1:=kc1_ I
 refine qL2 fun K O T Y=>?_
 iterate 29 refine tk ?_
 refine nlS Y I fun vw1 J=>?_
 clear Y T I lx0 lx1
 go_wp2
 refine kO O ?_;clear O K
 have I:=J;clear J
 clear hd1 hd2 hd3 hd4 hd5
 refine wp_cond_false (by rfl) ?_
 refine wp_skip ?_
 show Code.wp _ _ _ _ _
 have HB:=HPb I
 have su1:wl t.natAbs≤2:=qi6 om om
 refine ks4_ fun K O T Y=>?_
 refine tk ?_
 refine ck Tryz.call31 (fun w' hw=>xt8 _ km fm n w _ HVm.out om HWm.out (Gr.trans HB.out hw) HFm.out) ?_
 refine tk ?_
 refine ck Tryz.call23 (fun w' hw=>qd3 t _ om om) ?_
 refine nlS Y I fun vw2 J=>?_
 clear Y T I HB
 go_wp2
 refine kF_ O (((J.out).aL (vw2.heap.size)).aL (vw2.heap.size+1)) fun Wx3 I=>?_;clear O K
 clear J
 generalize vw2.heap.size+1=gx4 at *
 generalize vw2.heap.size=gx3 at *
 have HB:=HPb I
 have lx0:=kc0_ I
 have lx1:=kc1_ I
 refine kS fun K O=>?_
 refine qa1 6 [4,5] [] (fun i=>if i=4 then 11 else 12) (fun i=>if i=4 then .cells #[.int .u64 0,.string ⟨#[]⟩,.bool false,.int .u64 0,.string ⟨#[]⟩] 36 else .cells #[.int .u64 0,.string ⟨#[]⟩,.bool false,.int .u64 0,.string ⟨#[]⟩] 36) [(true,0),(true,2),(true,1),(true,3)] (by kernel_rfl) (by kernel_rfl) (by intro i hi;simp only [List.mem_cons,List.not_mem_nil,or_false] at hi;rcases hi with rfl|rfl <;> exact ⟨_,rfl,rfl,rfl,by simp,fun ρ w=>by kernel_rfl⟩) (fun i hi=>by cases hi) (fun _ _ _ _ _ h=>h) (fun T Y=>?_)
 refine tk2_ ?_
 refine ck Tryz.call35 (fun w' hw=>qC3 bbxn kxn fxn mxn ixn kxd fxd mxd a ao_xn c_xn ao_xd c_xd w' (lh_ (HWxn.out.gr (Gr.trans HB.out hw))) HFxn HVxn HAxn (lh_ (HWxd.out.gr (Gr.trans HB.out hw))) HFxd HVxd HQx om om om om) ?_
 refine ck Tryz.call35 (fun w' hw=>qC3 bbyn kyn fyn myn iyn kyd fyd myd c ao_yn c_yn ao_yd c_yd w' (lh_ (HWyn.out.gr (Gr.trans HB.out hw))) HFyn HVyn HAyn (lh_ (HWyd.out.gr (Gr.trans HB.out hw))) HFyd HVyd HQy om om om om) ?_
 refine qa0 (Y.out _ _ ?_)
 intro G vw3 hg hf
 simp only [puts,Act.put,lA,lB,lC,lD,lE,↓reduceIte,Nat.reduceEqDiff]
 have J:=lh_ (I.out.fr hg hf (zs:=[(#[.int .u64 0,.string ⟨#[]⟩,.bool false,.int .u64 0,.string ⟨#[]⟩],36),(#[.int .u64 0,.string ⟨#[]⟩,.bool false,.int .u64 0,.string ⟨#[]⟩],36)]) rfl (by decide) (by decide))
 simp only [zq1_,zq2_,zq3_,zq4_,lF,lG] at J
 clear Y T I hg hf lx0 lx1 HB
 generalize G 4=gx5 at *
 generalize G 5=gx6 at *
 have lx5:=kc4_ J;have fx5:=kf4_ J
 have lx6:=kc5_ J;have fx6:=kf5_ J
 have r0:=Gr.refl vw3
 obtain ⟨d5_6,d6_5⟩:=J.out.ne 4 5 rfl rfl (by decide)
 go_wp2
 refine kO O ?_;clear O K
 clear r0 lx5 fx5 lx6 fx6 d5_6 d6_5
 refine fH (((((((((J.out).put2 4 0 rfl).put2 4 2 rfl).put 4 4 _ rfl).put2 5 0 rfl).put2 5 2 rfl).put 5 4 _ rfl).er 1).er 0) fun Wx4 I=>?_
 clear J
 refine wp_seq ?_
 refine kS fun K O=>?_
 suffices HJ:Hid (∀ (g0 g1 g2 g3 g4 g5 g6 g7 g8 g11 g12 g13 g14 g15 g16 g17 g18 g19 g20 g21 g22 g23 g24 g25 g26 g27 g28 g29 g30 g31 g32 g33 g34 g35 g36 g37 g38 g39 g40 g41 g42 g43 g44 g45 g46 g47 g48 g49 g50 g51 g52 g53 g54 g55 g56 g57 g58 g59 g60 g61 g62 g63 g64 g65 g66 g67 g68 g69 g70 g71 g72 g73 g74 g75 g76 g77 g78 g79 g80 g82 g83 g84 g85 g86 g87 g88 g89 g90 g91 g92 g93 g94 g95 g96 g97 g98 g99 g100 g101 g102 g103 g104 g105 g106 g107 g108 g109 g110 g111 g112 g113 g114 g115 g116 g117 g118 g119 g120 g121 g122 g123 g124 g125:Value) (wj:World),Hid (HP w wj [Sum.inl (gx3,30,#[.int .u64 (lo n),.string (bg n)]),Sum.inl (gx4,34,#[.int .u64 (lo t.natAbs),.string (bg t.natAbs),.bool (t<0)])])→K { tmps:=#[g0,g1,g2,g3,g4,g5,g6,g7,g8,.pointer (some ⟨gx3,0,none⟩),.pointer (some ⟨gx4,0,none⟩),g11,g12,g13,g14,g15,g16,g17,g18,g19,g20,g21,g22,g23,g24,g25,g26,g27,g28,g29,g30,g31,g32,g33,g34,g35,g36,g37,g38,g39,g40,g41,g42,g43,g44,g45,g46,g47,g48,g49,g50,g51,g52,g53,g54,g55,g56,g57,g58,g59,g60,g61,g62,g63,g64,g65,g66,g67,g68,g69,g70,g71,g72,g73,g74,g75,g76,g77,g78,g79,g80,.bool false,g82,g83,g84,g85,g86,g87,g88,g89,g90,g91,g92,g93,g94,g95,g96,g97,g98,g99,g100,g101,g102,g103,g104,g105,g106,g107,g108,g109,g110,g111,g112,g113,g114,g115,g116,g117,g118,g119,g120,g121,g122,g123,g124,g125],defers:=[] } wj) by
  by_cases c1:rfar a n
  ·have H1:=lh_ c1
   by_cases c2:rfar c n
   ·have H2:=lh_ c2
    by_cases c3:rfit a t n
    ·have H3:=lh_ c3
     by_cases c4:rfit c t n
     ·have H4:=lh_ c4
      have HEQ:Hid (a=c):=lh_ (qP0 c1 c3 c2 c4)
      clear c1 c2 c3 c4
      have hdab:decide (a=c)=true:=decide_eq_true HEQ.out
      have lx3:=kc0_ I
      have lx4:=kc1_ I
      have lx5:=kc2_ I
      have lx6:=kc3_ I
      refine qW4 fun T Y=>?_
      refine tk2_ ?_
      refine ck Tryz.call34 (fun w' hw=>rFar a n true _ (decide_eq_true (H1.out)) om om) ?_
      refine tk3_ ?_
      refine ck Tryz.call34 (fun w' hw=>rFar c n true _ (decide_eq_true (H2.out)) om om) ?_
      iterate 5 refine tk ?_
      refine ck Tryz.call33 (fun w' hw=>ql8 a t n true _ (decide_eq_true (H3.out)) om om om) ?_
      iterate 5 refine tk ?_
      refine ck Tryz.call33 (fun w' hw=>ql8 c t n true _ (decide_eq_true (H4.out)) om om om) ?_
      iterate 6 refine tk ?_
      refine nlS Y I fun vw4 J=>?_
      clear Y T I lx3 lx4 lx5 lx6
      go_wp2
      exact HJ.out _ _ _ _ _ _ _ _ _ _ _ _ _ _ _ _ _ _ _ _ _ _ _ _ _ _ _ _ _ _ _ _ _ _ _ _ _ _ _ _ _ _ _ _ _ _ _ _ _ _ _ _ _ _ _ _ _ _ _ _ _ _ _ _ _ _ _ _ _ _ _ _ _ _ _ _ _ _ _ _ _ _ _ _ _ _ _ _ _ _ _ _ _ _ _ _ _ _ _ _ _ _ _ _ _ _ _ _ _ _ _ _ _ _ _ _ _ _ _ _ _ _ _ _ (lh_ (((J.out).er 3).er 2))
     ·have H4:=lh_ c4
      clear c1 c2 c3 c4
      have lx3:=kc0_ I
      have lx4:=kc1_ I
      have lx5:=kc2_ I
      have lx6:=kc3_ I
      refine qW4 fun T Y=>?_
      refine tk2_ ?_
      refine ck Tryz.call34 (fun w' hw=>rFar a n true _ (decide_eq_true (H1.out)) om om) ?_
      refine tk3_ ?_
      refine ck Tryz.call34 (fun w' hw=>rFar c n true _ (decide_eq_true (H2.out)) om om) ?_
      iterate 5 refine tk ?_
      refine ck Tryz.call33 (fun w' hw=>ql8 a t n true _ (decide_eq_true (H3.out)) om om om) ?_
      iterate 5 refine tk ?_
      refine ck Tryz.call33 (fun w' hw=>ql8 c t n false _ (decide_eq_false (H4.out)) om om om) ?_
      refine tk2_ ?_
      iterate 3 refine sk ?_
      refine tk ?_
      refine nlS Y I fun vw4 J=>?_
      clear Y T I lx3 lx4 lx5 lx6
      go_wp2
      exact HJ.out _ _ _ _ _ _ _ _ _ _ _ _ _ _ _ _ _ _ _ _ _ _ _ _ _ _ _ _ _ _ _ _ _ _ _ _ _ _ _ _ _ _ _ _ _ _ _ _ _ _ _ _ _ _ _ _ _ _ _ _ _ _ _ _ _ _ _ _ _ _ _ _ _ _ _ _ _ _ _ _ _ _ _ _ _ _ _ _ _ _ _ _ _ _ _ _ _ _ _ _ _ _ _ _ _ _ _ _ _ _ _ _ _ _ _ _ _ _ _ _ _ _ _ _ (lh_ (((J.out).er 3).er 2))
    ·have H3:=lh_ c3
     clear c1 c2 c3
     have lx3:=kc0_ I
     have lx4:=kc1_ I
     have lx5:=kc2_ I
     have lx6:=kc3_ I
     refine qW4 fun T Y=>?_
     refine tk2_ ?_
     refine ck Tryz.call34 (fun w' hw=>rFar a n true _ (decide_eq_true (H1.out)) om om) ?_
     refine tk3_ ?_
     refine ck Tryz.call34 (fun w' hw=>rFar c n true _ (decide_eq_true (H2.out)) om om) ?_
     iterate 5 refine tk ?_
     refine ck Tryz.call33 (fun w' hw=>ql8 a t n false _ (decide_eq_false (H3.out)) om om om) ?_
     refine tk2_ ?_
     iterate 4 refine sk ?_
     refine tk2_ ?_
     iterate 3 refine sk ?_
     refine tk ?_
     refine nlS Y I fun vw4 J=>?_
     clear Y T I lx3 lx4 lx5 lx6
     go_wp2
     exact HJ.out _ _ _ _ _ _ _ _ _ _ _ _ _ _ _ _ _ _ _ _ _ _ _ _ _ _ _ _ _ _ _ _ _ _ _ _ _ _ _ _ _ _ _ _ _ _ _ _ _ _ _ _ _ _ _ _ _ _ _ _ _ _ _ _ _ _ _ _ _ _ _ _ _ _ _ _ _ _ _ _ _ _ _ _ _ _ _ _ _ _ _ _ _ _ _ _ _ _ _ _ _ _ _ _ _ _ _ _ _ _ _ _ _ _ _ _ _ _ _ _ _ _ _ _ (lh_ (((J.out).er 3).er 2))
   ·have H2:=lh_ c2
    clear c1 c2
    have lx3:=kc0_ I
    have lx4:=kc1_ I
    have lx5:=kc2_ I
    have lx6:=kc3_ I
    refine qW4 fun T Y=>?_
    refine tk2_ ?_
    refine ck Tryz.call34 (fun w' hw=>rFar a n true _ (decide_eq_true (H1.out)) om om) ?_
    refine tk3_ ?_
    refine ck Tryz.call34 (fun w' hw=>rFar c n false _ (decide_eq_false (H2.out)) om om) ?_
    refine tk2_ ?_
    iterate 4 refine sk ?_
    refine tk2_ ?_
    iterate 4 refine sk ?_
    refine tk2_ ?_
    iterate 3 refine sk ?_
    refine tk ?_
    refine nlS Y I fun vw4 J=>?_
    clear Y T I lx3 lx4 lx5 lx6
    go_wp2
    exact HJ.out _ _ _ _ _ _ _ _ _ _ _ _ _ _ _ _ _ _ _ _ _ _ _ _ _ _ _ _ _ _ _ _ _ _ _ _ _ _ _ _ _ _ _ _ _ _ _ _ _ _ _ _ _ _ _ _ _ _ _ _ _ _ _ _ _ _ _ _ _ _ _ _ _ _ _ _ _ _ _ _ _ _ _ _ _ _ _ _ _ _ _ _ _ _ _ _ _ _ _ _ _ _ _ _ _ _ _ _ _ _ _ _ _ _ _ _ _ _ _ _ _ _ _ _ (lh_ (((J.out).er 3).er 2))
  ·have H1:=lh_ c1
   clear c1
   have lx3:=kc0_ I
   have lx4:=kc1_ I
   have lx5:=kc2_ I
   have lx6:=kc3_ I
   refine qW4 fun T Y=>?_
   refine tk2_ ?_
   refine ck Tryz.call34 (fun w' hw=>rFar a n false _ (decide_eq_false (H1.out)) om om) ?_
   refine tk ?_
   iterate 3 refine sk ?_
   refine tk2_ ?_
   iterate 4 refine sk ?_
   refine tk2_ ?_
   iterate 4 refine sk ?_
   refine tk2_ ?_
   iterate 3 refine sk ?_
   refine tk ?_
   refine nlS Y I fun vw4 J=>?_
   clear Y T I lx3 lx4 lx5 lx6
   go_wp2
   exact HJ.out _ _ _ _ _ _ _ _ _ _ _ _ _ _ _ _ _ _ _ _ _ _ _ _ _ _ _ _ _ _ _ _ _ _ _ _ _ _ _ _ _ _ _ _ _ _ _ _ _ _ _ _ _ _ _ _ _ _ _ _ _ _ _ _ _ _ _ _ _ _ _ _ _ _ _ _ _ _ _ _ _ _ _ _ _ _ _ _ _ _ _ _ _ _ _ _ _ _ _ _ _ _ _ _ _ _ _ _ _ _ _ _ _ _ _ _ _ _ _ _ _ _ _ _ (lh_ (((J.out).er 3).er 2))
 refine lh_ ?_
 intro g0 g1 g2 g3 g4 g5 g6 g7 g8 g11 g12 g13 g14 g15 g16 g17 g18 g19 g20 g21 g22 g23 g24 g25 g26 g27 g28 g29 g30 g31 g32 g33 g34 g35 g36 g37 g38 g39 g40 g41 g42 g43 g44 g45 g46 g47 g48 g49 g50 g51 g52 g53 g54 g55 g56 g57 g58 g59 g60 g61 g62 g63 g64 g65 g66 g67 g68 g69 g70 g71 g72 g73 g74 g75 g76 g77 g78 g79 g80 g82 g83 g84 g85 g86 g87 g88 g89 g90 g91 g92 g93 g94 g95 g96 g97 g98 g99 g100 g101 g102 g103 g104 g105 g106 g107 g108 g109 g110 g111 g112 g113 g114 g115 g116 g117 g118 g119 g120 g121 g122 g123 g124 g125 wj HFJ
 clear I;have I:=HFJ;clear HFJ
 refine kO O ?_;clear O K
 refine wp_cond_false (by rfl) ?_
 refine wp_skip ?_
 show Code.wp _ _ _ _ _
 have su2:sz z1≤6:=qj8 (HB1.out) om (by decide)
 have lx3:=kc0_ I
 have lx4:=kc1_ I
 refine ks6_ fun K O T Y=>?_
 refine tk2_ ?_
 refine ck Tryz.call22 (fun w' hw=>qt3 t n z1 b1 _ (HB1.out) om om) ?_
 refine tk3_ ?_
 refine nlS Y I fun vw4 J=>?_
 clear Y T I lx3 lx4
 go_wp2
 refine kF_ O ((J.out).aL (vw4.heap.size)) fun Wx7 I=>?_;clear O K
 clear J
 generalize vw4.heap.size=gx7 at *
 have HZ3:Hid ((if false then -((n:Nat):Int) else ((n:Nat):Int))=((n:Nat):Int)):=lh_ (by rfl)
 have su3:wl (Int.natAbs (((n:Nat):Int)))≤6:=by have e:=HZ3.out;first|omega|(rw [← e];split <;> simp <;> omega)
 have HZ4:Hid (t+(((n:Nat):Int))=t2):=lh_ (HP2.out)
 have su4:wl t2.natAbs≤7:=by have e:=HZ4.out;first|omega|(rw [← e];have:=qf7 t (((n:Nat):Int));omega)
 have su5:sz z1≤6:=qj8 (HB2.out) om (by decide)
 have lx3:=kc0_ I
 have lx4:=kc1_ I
 refine kS fun K O=>?_
 refine qa1 10 [9] [8] (fun _=>15) (fun _=>.cells #[.int .u64 0,.string ⟨#[]⟩,.bool false,.int .u64 0,.string ⟨#[]⟩] 36) [(true,0),(true,1),(true,4),(true,2),(true,3),(true,5),(true,6),(true,7),(true,8)] (by kernel_rfl) (by kernel_rfl) (by intro i hi;simp only [List.mem_cons,List.not_mem_nil,or_false] at hi;rcases hi with rfl <;> exact ⟨_,rfl,rfl,rfl,by simp,fun ρ w=>by kernel_rfl⟩) (by intro i hi;simp only [List.mem_cons,List.not_mem_nil,or_false] at hi;rcases hi with rfl <;> exact ⟨_,rfl,qa_⟩) (fun _ _ _ _ _ h=>h) (fun T Y=>?_)
 refine tk3_ ?_
 refine ck Tryz.call37 (fun w' hw=>qb2 false n (((n:Nat):Int)) _ HZ3.out) ?_
 refine ck Tryz.call41 (fun w' hw=>qq3 t (((n:Nat):Int)) t2 _ HZ4.out om om) ?_
 refine ck Tryz.call22 (fun w' hw=>qt3 t2 n z1 b1 _ (HB2.out) om om) ?_
 refine tk3_ ?_
 refine qa0 (Y.out _ _ ?_)
 intro G vw5 hg hf
 simp only [puts,Act.put,lA,lB,lC,lD,lE,↓reduceIte,Nat.reduceEqDiff]
 have J:=lh_ (I.out.fr hg hf (zs:=[(#[.int .u64 0,.string ⟨#[]⟩,.bool false,.int .u64 0,.string ⟨#[]⟩],36)]) rfl (by decide) (by decide))
 simp only [zq1_,zq2_,zq3_,zq4_,lF,lG] at J
 clear Y T I hg hf lx3 lx4
 generalize G 9=gx8 at *
 have lx8:=kc3_ J;have fx8:=kf3_ J
 have r0:=Gr.refl vw5
 go_wp2
 refine kO O ?_;clear O K
 clear r0 lx8 fx8
 refine fH ((((J.out).put2 3 0 rfl).put2 3 2 rfl).put 3 4 _ rfl) fun Wx8 I=>?_
 clear J
 have HZ6:Hid (-(t)=t3):=lh_ (HP3.out)
 have su6:wl t3.natAbs≤2:=by have e:=HZ6.out;first|omega|(rw [← e];rw [Int.natAbs_neg];omega)
 have su7:sz nz≤6:=qj8 (HB3.out) om (by decide)
 have lx3:=kc0_ I
 have lx4:=kc1_ I
 refine kS fun K O=>?_
 refine qa1 8 [7] [6] (fun _=>17) (fun _=>.cells #[.int .u64 0,.string ⟨#[]⟩,.bool false,.int .u64 0,.string ⟨#[]⟩] 36) [(true,0),(true,2),(true,1),(true,3),(true,4),(true,5),(true,6)] (by kernel_rfl) (by kernel_rfl) (by intro i hi;simp only [List.mem_cons,List.not_mem_nil,or_false] at hi;rcases hi with rfl <;> exact ⟨_,rfl,rfl,rfl,by simp,fun ρ w=>by kernel_rfl⟩) (by intro i hi;simp only [List.mem_cons,List.not_mem_nil,or_false] at hi;rcases hi with rfl <;> exact ⟨_,rfl,qa_⟩) (fun _ _ _ _ _ h=>h) (fun T Y=>?_)
 refine tk2_ ?_
 refine ck Tryz.call44 (fun w' hw=>qY9 t t3 _ HZ6.out) ?_
 refine ck Tryz.call22 (fun w' hw=>qt3 t3 n nz b1 _ (HB3.out) om om) ?_
 refine tk3_ ?_
 refine qa0 (Y.out _ _ ?_)
 intro G vw6 hg hf
 simp only [puts,Act.put,lA,lB,lC,lD,lE,↓reduceIte,Nat.reduceEqDiff]
 have J:=lh_ (I.out.fr hg hf (zs:=[(#[.int .u64 0,.string ⟨#[]⟩,.bool false,.int .u64 0,.string ⟨#[]⟩],36)]) rfl (by decide) (by decide))
 simp only [zq1_,zq2_,zq3_,zq4_,lF,lG] at J
 clear Y T I hg hf lx3 lx4
 generalize G 7=gx9 at *
 have lx9:=kc4_ J;have fx9:=kf4_ J
 have r0:=Gr.refl vw6
 go_wp2
 refine kO O ?_;clear O K
 clear r0 lx9 fx9
 refine fH ((((((J.out).put2 4 0 rfl).put2 4 2 rfl).put 4 4 _ rfl).er 1).er 0) fun Wx9 I=>?_
 clear J
 have HB:=HPb I
 have hbb6:(b1 == b1)=true:=by simp
 have HZ8:Hid (-(z1)=nz):=lh_ (HNZ.out)
 have su8:sz nz≤6:=by have e:=HZ8.out;first|omega|(rw [← e];rw [qA5];omega)
 have hbb17:(b1 == b1)=true:=by simp
 have lx7:=kc0_ I
 have lx8:=kc1_ I
 have lx9:=kc2_ I
 refine kS fun K O=>?_
 refine xG9 fun T Y=>?_
 iterate 11 refine tk ?_
 refine ck Tryz.call45 (fun w' hw=>qv_ z1 nz _ HZ8.out) ?_
 iterate 8 refine tk ?_
 refine ck Tryz.call27 (fun w' hw=>qa9 _ (lh_ (HT.out.gr (Gr.trans HB.out hw)))) ?_
 refine tk ?_
 refine nlD Y I fun vw7 J=>?_
 clear Y T I lx7 lx8 lx9 HB
 go_wp2
 refine kF_ O ((((J.out).er 2).er 1).er 0) fun Wx10 I=>?_;clear O K
 clear J
 clear hbb6 hbb17
 refine wp_ret ?_
 try simp only [Exit.then,Exit.inBlock]
 exact bodyPost_ret (v:=.bool true) (by simp [results,Tryz.results8,go_sem]) rfl ⟨rfl,I.out.1⟩
theorem xe0 (bbxn:Bool) (vxn:Value) (kxn:Nat) (fxn:Nat→Nat) (mxn:Nat) (ixn:Int) (vxd:Value) (kxd:Nat) (fxd:Nat→Nat) (mxd:Nat) (a:Rat) (bbyn:Bool) (vyn:Value) (kyn:Nat) (fyn:Nat→Nat) (myn:Nat) (iyn:Int) (vyd:Value) (kyd:Nat) (fyd:Nat→Nat) (myd:Nat) (c:Rat) (vm:Value) (km:Nat) (fm:Nat→Nat) (n:Nat) (t:Int) (w:World) (HWxn:Hid (Wa w vxn kxn fxn)) (HFxn:Hid (∀ i,i<kxn→fxn i<4294967296)) (HVxn:Hid (vl fxn kxn=mxn)) (HAxn:Hid ((if bbxn then -((mxn:Nat):Int) else ((mxn:Nat):Int))=ixn)) (HWxd:Hid (Wa w vxd kxd fxd)) (HFxd:Hid (∀ i,i<kxd→fxd i<4294967296)) (HVxd:Hid (vl fxd kxd=mxd)) (HQx:Hid (mkRat ixn (mxd+1)=a)) (HWyn:Hid (Wa w vyn kyn fyn)) (HFyn:Hid (∀ i,i<kyn→fyn i<4294967296)) (HVyn:Hid (vl fyn kyn=myn)) (HAyn:Hid ((if bbyn then -((myn:Nat):Int) else ((myn:Nat):Int))=iyn)) (HWyd:Hid (Wa w vyd kyd fyd)) (HFyd:Hid (∀ i,i<kyd→fyd i<4294967296)) (HVyd:Hid (vl fyd kyd=myd)) (HQy:Hid (mkRat iyn (myd+1)=c)) (HWm:Hid (Wa w vm km fm)) (HFm:Hid (∀ i,i<km→fm i<4294967296)) (HVm:Hid (vl fm km=n))  (hkxn:2<kxn) (HT:Hid (Tab w)) :
  Calls Tryz.prog 8 #[.agg #[.bool bbxn,vxn,vxd],.agg #[.bool bbyn,vyn,vyd],vm,.int .i64 t] w fun e w'=>e=.returned (.bool true)∧Below w.heap.size w w':=by
 obtain ⟨ao_xn,c_xn,rfl⟩:=HWxn.out.slice
 obtain ⟨ao_xd,c_xd,rfl⟩:=HWxd.out.slice
 obtain ⟨ao_yn,c_yn,rfl⟩:=HWyn.out.slice
 obtain ⟨ao_yd,c_yd,rfl⟩:=HWyd.out.slice
 obtain ⟨ao_m,c_m,rfl⟩:=HWm.out.slice
 go_enter Tryz.func8,Tryz.ntmps8
 have I:=lh_ (hp0 w)
 refine kS fun K O=>?_
 refine wp_region_lit ?_
 go_wp2
 refine kF_ O (((I.out).aL (w.heap.size)).aL (w.heap.size+1)) fun Wx0 J=>?_;clear O K
 clear I;have I:=J;clear J
 generalize w.heap.size+1=gx1 at *
 refine wp_seq ?_
 have hd1:2<((kxn:Int)):=ok
 have lx0:=kc0_ I
 refine qL2 fun K O T Y=>?_
 iterate 6 refine tk ?_
 iterate 4 refine sk ?_
 refine tk2_ ?_
 iterate 5 refine sk ?_
 refine tk2_ ?_
 iterate 4 refine sk ?_
 refine tk2_ ?_
 iterate 3 refine sk ?_
 refine tk ?_
 refine nlS Y I fun vw1 J=>?_
 clear Y T I lx0
 go_wp2
 refine kO O ?_;clear O K
 have I:=J;clear J
 clear hd1
 refine wp_cond_true (by rfl) ?_
 have HB:=HPb I
 refine ks2_ fun K O T Y=>?_
 refine ck Tryz.call27 (fun w' hw=>qa9 _ (lh_ (HT.out.gr (Gr.trans HB.out hw)))) ?_
 refine tk ?_
 refine nlS Y I fun vw2 J=>?_
 clear Y T I HB
 go_wp2
 refine kO O ?_;clear O K
 have I:=J;clear J
 refine wp_ret ?_
 try simp only [Exit.then,Exit.inBlock]
 exact bodyPost_ret (v:=.bool true) (by simp [results,Tryz.results8,go_sem]) rfl ⟨rfl,I.out.1⟩
theorem xe1 (bbxn:Bool) (vxn:Value) (kxn:Nat) (fxn:Nat→Nat) (mxn:Nat) (ixn:Int) (vxd:Value) (kxd:Nat) (fxd:Nat→Nat) (mxd:Nat) (a:Rat) (bbyn:Bool) (vyn:Value) (kyn:Nat) (fyn:Nat→Nat) (myn:Nat) (iyn:Int) (vyd:Value) (kyd:Nat) (fyd:Nat→Nat) (myd:Nat) (c:Rat) (vm:Value) (km:Nat) (fm:Nat→Nat) (n:Nat) (t:Int) (w:World) (HWxn:Hid (Wa w vxn kxn fxn)) (HFxn:Hid (∀ i,i<kxn→fxn i<4294967296)) (HVxn:Hid (vl fxn kxn=mxn)) (HAxn:Hid ((if bbxn then -((mxn:Nat):Int) else ((mxn:Nat):Int))=ixn)) (HWxd:Hid (Wa w vxd kxd fxd)) (HFxd:Hid (∀ i,i<kxd→fxd i<4294967296)) (HVxd:Hid (vl fxd kxd=mxd)) (HQx:Hid (mkRat ixn (mxd+1)=a)) (HWyn:Hid (Wa w vyn kyn fyn)) (HFyn:Hid (∀ i,i<kyn→fyn i<4294967296)) (HVyn:Hid (vl fyn kyn=myn)) (HAyn:Hid ((if bbyn then -((myn:Nat):Int) else ((myn:Nat):Int))=iyn)) (HWyd:Hid (Wa w vyd kyd fyd)) (HFyd:Hid (∀ i,i<kyd→fyd i<4294967296)) (HVyd:Hid (vl fyd kyd=myd)) (HQy:Hid (mkRat iyn (myd+1)=c)) (HWm:Hid (Wa w vm km fm)) (HFm:Hid (∀ i,i<km→fm i<4294967296)) (HVm:Hid (vl fm km=n)) (hkxn:kxn≤2) (hkxd:2<kxd) (HT:Hid (Tab w)) :
  Calls Tryz.prog 8 #[.agg #[.bool bbxn,vxn,vxd],.agg #[.bool bbyn,vyn,vyd],vm,.int .i64 t] w fun e w'=>e=.returned (.bool true)∧Below w.heap.size w w':=by
 obtain ⟨ao_xn,c_xn,rfl⟩:=HWxn.out.slice
 obtain ⟨ao_xd,c_xd,rfl⟩:=HWxd.out.slice
 obtain ⟨ao_yn,c_yn,rfl⟩:=HWyn.out.slice
 obtain ⟨ao_yd,c_yd,rfl⟩:=HWyd.out.slice
 obtain ⟨ao_m,c_m,rfl⟩:=HWm.out.slice
 go_enter Tryz.func8,Tryz.ntmps8
 have I:=lh_ (hp0 w)
 refine kS fun K O=>?_
 refine wp_region_lit ?_
 go_wp2
 refine kF_ O (((I.out).aL (w.heap.size)).aL (w.heap.size+1)) fun Wx0 J=>?_;clear O K
 clear I;have I:=J;clear J
 generalize w.heap.size+1=gx1 at *
 refine wp_seq ?_
 have hd1:¬ (2<((kxn:Int))):=ok
 have hd2:2<((kxd:Int)):=ok
 have lx0:=kc0_ I
 refine qL2 fun K O T Y=>?_
 iterate 12 refine tk ?_
 iterate 5 refine sk ?_
 refine tk2_ ?_
 iterate 4 refine sk ?_
 refine tk2_ ?_
 iterate 3 refine sk ?_
 refine tk ?_
 refine nlS Y I fun vw1 J=>?_
 clear Y T I lx0
 go_wp2
 refine kO O ?_;clear O K
 have I:=J;clear J
 clear hd1 hd2
 refine wp_cond_true (by rfl) ?_
 have HB:=HPb I
 refine ks2_ fun K O T Y=>?_
 refine ck Tryz.call27 (fun w' hw=>qa9 _ (lh_ (HT.out.gr (Gr.trans HB.out hw)))) ?_
 refine tk ?_
 refine nlS Y I fun vw2 J=>?_
 clear Y T I HB
 go_wp2
 refine kO O ?_;clear O K
 have I:=J;clear J
 refine wp_ret ?_
 try simp only [Exit.then,Exit.inBlock]
 exact bodyPost_ret (v:=.bool true) (by simp [results,Tryz.results8,go_sem]) rfl ⟨rfl,I.out.1⟩
theorem xe2 (bbxn:Bool) (vxn:Value) (kxn:Nat) (fxn:Nat→Nat) (mxn:Nat) (ixn:Int) (vxd:Value) (kxd:Nat) (fxd:Nat→Nat) (mxd:Nat) (a:Rat) (bbyn:Bool) (vyn:Value) (kyn:Nat) (fyn:Nat→Nat) (myn:Nat) (iyn:Int) (vyd:Value) (kyd:Nat) (fyd:Nat→Nat) (myd:Nat) (c:Rat) (vm:Value) (km:Nat) (fm:Nat→Nat) (n:Nat) (t:Int) (w:World) (HWxn:Hid (Wa w vxn kxn fxn)) (HFxn:Hid (∀ i,i<kxn→fxn i<4294967296)) (HVxn:Hid (vl fxn kxn=mxn)) (HAxn:Hid ((if bbxn then -((mxn:Nat):Int) else ((mxn:Nat):Int))=ixn)) (HWxd:Hid (Wa w vxd kxd fxd)) (HFxd:Hid (∀ i,i<kxd→fxd i<4294967296)) (HVxd:Hid (vl fxd kxd=mxd)) (HQx:Hid (mkRat ixn (mxd+1)=a)) (HWyn:Hid (Wa w vyn kyn fyn)) (HFyn:Hid (∀ i,i<kyn→fyn i<4294967296)) (HVyn:Hid (vl fyn kyn=myn)) (HAyn:Hid ((if bbyn then -((myn:Nat):Int) else ((myn:Nat):Int))=iyn)) (HWyd:Hid (Wa w vyd kyd fyd)) (HFyd:Hid (∀ i,i<kyd→fyd i<4294967296)) (HVyd:Hid (vl fyd kyd=myd)) (HQy:Hid (mkRat iyn (myd+1)=c)) (HWm:Hid (Wa w vm km fm)) (HFm:Hid (∀ i,i<km→fm i<4294967296)) (HVm:Hid (vl fm km=n)) (hkxn:kxn≤2) (hkxd:kxd≤2) (hkyn:2<kyn) (HT:Hid (Tab w)) :
  Calls Tryz.prog 8 #[.agg #[.bool bbxn,vxn,vxd],.agg #[.bool bbyn,vyn,vyd],vm,.int .i64 t] w fun e w'=>e=.returned (.bool true)∧Below w.heap.size w w':=by
 obtain ⟨ao_xn,c_xn,rfl⟩:=HWxn.out.slice
 obtain ⟨ao_xd,c_xd,rfl⟩:=HWxd.out.slice
 obtain ⟨ao_yn,c_yn,rfl⟩:=HWyn.out.slice
 obtain ⟨ao_yd,c_yd,rfl⟩:=HWyd.out.slice
 obtain ⟨ao_m,c_m,rfl⟩:=HWm.out.slice
 go_enter Tryz.func8,Tryz.ntmps8
 have I:=lh_ (hp0 w)
 refine kS fun K O=>?_
 refine wp_region_lit ?_
 go_wp2
 refine kF_ O (((I.out).aL (w.heap.size)).aL (w.heap.size+1)) fun Wx0 J=>?_;clear O K
 clear I;have I:=J;clear J
 generalize w.heap.size+1=gx1 at *
 refine wp_seq ?_
 have hd1:¬ (2<((kxn:Int))):=ok
 have hd2:¬ (2<((kxd:Int))):=ok
 have hd3:2<((kyn:Int)):=ok
 have lx0:=kc0_ I
 have lx1:=kc1_ I
 refine qL2 fun K O T Y=>?_
 iterate 19 refine tk ?_
 iterate 4 refine sk ?_
 refine tk2_ ?_
 iterate 3 refine sk ?_
 refine tk ?_
 refine nlS Y I fun vw1 J=>?_
 clear Y T I lx0 lx1
 go_wp2
 refine kO O ?_;clear O K
 have I:=J;clear J
 clear hd1 hd2 hd3
 refine wp_cond_true (by rfl) ?_
 have HB:=HPb I
 refine ks2_ fun K O T Y=>?_
 refine ck Tryz.call27 (fun w' hw=>qa9 _ (lh_ (HT.out.gr (Gr.trans HB.out hw)))) ?_
 refine tk ?_
 refine nlS Y I fun vw2 J=>?_
 clear Y T I HB
 go_wp2
 refine kO O ?_;clear O K
 have I:=J;clear J
 refine wp_ret ?_
 try simp only [Exit.then,Exit.inBlock]
 exact bodyPost_ret (v:=.bool true) (by simp [results,Tryz.results8,go_sem]) rfl ⟨rfl,I.out.1⟩
theorem xe3 (bbxn:Bool) (vxn:Value) (kxn:Nat) (fxn:Nat→Nat) (mxn:Nat) (ixn:Int) (vxd:Value) (kxd:Nat) (fxd:Nat→Nat) (mxd:Nat) (a:Rat) (bbyn:Bool) (vyn:Value) (kyn:Nat) (fyn:Nat→Nat) (myn:Nat) (iyn:Int) (vyd:Value) (kyd:Nat) (fyd:Nat→Nat) (myd:Nat) (c:Rat) (vm:Value) (km:Nat) (fm:Nat→Nat) (n:Nat) (t:Int) (w:World) (HWxn:Hid (Wa w vxn kxn fxn)) (HFxn:Hid (∀ i,i<kxn→fxn i<4294967296)) (HVxn:Hid (vl fxn kxn=mxn)) (HAxn:Hid ((if bbxn then -((mxn:Nat):Int) else ((mxn:Nat):Int))=ixn)) (HWxd:Hid (Wa w vxd kxd fxd)) (HFxd:Hid (∀ i,i<kxd→fxd i<4294967296)) (HVxd:Hid (vl fxd kxd=mxd)) (HQx:Hid (mkRat ixn (mxd+1)=a)) (HWyn:Hid (Wa w vyn kyn fyn)) (HFyn:Hid (∀ i,i<kyn→fyn i<4294967296)) (HVyn:Hid (vl fyn kyn=myn)) (HAyn:Hid ((if bbyn then -((myn:Nat):Int) else ((myn:Nat):Int))=iyn)) (HWyd:Hid (Wa w vyd kyd fyd)) (HFyd:Hid (∀ i,i<kyd→fyd i<4294967296)) (HVyd:Hid (vl fyd kyd=myd)) (HQy:Hid (mkRat iyn (myd+1)=c)) (HWm:Hid (Wa w vm km fm)) (HFm:Hid (∀ i,i<km→fm i<4294967296)) (HVm:Hid (vl fm km=n)) (hkxn:kxn≤2) (hkxd:kxd≤2) (hkyn:kyn≤2) (hkyd:2<kyd) (HT:Hid (Tab w)) :
  Calls Tryz.prog 8 #[.agg #[.bool bbxn,vxn,vxd],.agg #[.bool bbyn,vyn,vyd],vm,.int .i64 t] w fun e w'=>e=.returned (.bool true)∧Below w.heap.size w w':=by
 obtain ⟨ao_xn,c_xn,rfl⟩:=HWxn.out.slice
 obtain ⟨ao_xd,c_xd,rfl⟩:=HWxd.out.slice
 obtain ⟨ao_yn,c_yn,rfl⟩:=HWyn.out.slice
 obtain ⟨ao_yd,c_yd,rfl⟩:=HWyd.out.slice
 obtain ⟨ao_m,c_m,rfl⟩:=HWm.out.slice
 go_enter Tryz.func8,Tryz.ntmps8
 have I:=lh_ (hp0 w)
 refine kS fun K O=>?_
 refine wp_region_lit ?_
 go_wp2
 refine kF_ O (((I.out).aL (w.heap.size)).aL (w.heap.size+1)) fun Wx0 J=>?_;clear O K
 clear I;have I:=J;clear J
 generalize w.heap.size+1=gx1 at *
 refine wp_seq ?_
 have hd1:¬ (2<((kxn:Int))):=ok
 have hd2:¬ (2<((kxd:Int))):=ok
 have hd3:¬ (2<((kyn:Int))):=ok
 have hd4:2<((kyd:Int)):=ok
 have lx0:=kc0_ I
 have lx1:=kc1_ I
 refine qL2 fun K O T Y=>?_
 iterate 25 refine tk ?_
 iterate 3 refine sk ?_
 refine tk ?_
 refine nlS Y I fun vw1 J=>?_
 clear Y T I lx0 lx1
 go_wp2
 refine kO O ?_;clear O K
 have I:=J;clear J
 clear hd1 hd2 hd3 hd4
 refine wp_cond_true (by rfl) ?_
 have HB:=HPb I
 refine ks2_ fun K O T Y=>?_
 refine ck Tryz.call27 (fun w' hw=>qa9 _ (lh_ (HT.out.gr (Gr.trans HB.out hw)))) ?_
 refine tk ?_
 refine nlS Y I fun vw2 J=>?_
 clear Y T I HB
 go_wp2
 refine kO O ?_;clear O K
 have I:=J;clear J
 refine wp_ret ?_
 try simp only [Exit.then,Exit.inBlock]
 exact bodyPost_ret (v:=.bool true) (by simp [results,Tryz.results8,go_sem]) rfl ⟨rfl,I.out.1⟩
theorem xe4 (bbxn:Bool) (vxn:Value) (kxn:Nat) (fxn:Nat→Nat) (mxn:Nat) (ixn:Int) (vxd:Value) (kxd:Nat) (fxd:Nat→Nat) (mxd:Nat) (a:Rat) (bbyn:Bool) (vyn:Value) (kyn:Nat) (fyn:Nat→Nat) (myn:Nat) (iyn:Int) (vyd:Value) (kyd:Nat) (fyd:Nat→Nat) (myd:Nat) (c:Rat) (vm:Value) (km:Nat) (fm:Nat→Nat) (n:Nat) (t:Int) (w:World) (HWxn:Hid (Wa w vxn kxn fxn)) (HFxn:Hid (∀ i,i<kxn→fxn i<4294967296)) (HVxn:Hid (vl fxn kxn=mxn)) (HAxn:Hid ((if bbxn then -((mxn:Nat):Int) else ((mxn:Nat):Int))=ixn)) (HWxd:Hid (Wa w vxd kxd fxd)) (HFxd:Hid (∀ i,i<kxd→fxd i<4294967296)) (HVxd:Hid (vl fxd kxd=mxd)) (HQx:Hid (mkRat ixn (mxd+1)=a)) (HWyn:Hid (Wa w vyn kyn fyn)) (HFyn:Hid (∀ i,i<kyn→fyn i<4294967296)) (HVyn:Hid (vl fyn kyn=myn)) (HAyn:Hid ((if bbyn then -((myn:Nat):Int) else ((myn:Nat):Int))=iyn)) (HWyd:Hid (Wa w vyd kyd fyd)) (HFyd:Hid (∀ i,i<kyd→fyd i<4294967296)) (HVyd:Hid (vl fyd kyd=myd)) (HQy:Hid (mkRat iyn (myd+1)=c)) (HWm:Hid (Wa w vm km fm)) (HFm:Hid (∀ i,i<km→fm i<4294967296)) (HVm:Hid (vl fm km=n)) (hkxn:kxn≤2) (hkxd:kxd≤2) (hkyn:kyn≤2) (hkyd:kyd≤2) (hkm:6<km) (HT:Hid (Tab w)) :
  Calls Tryz.prog 8 #[.agg #[.bool bbxn,vxn,vxd],.agg #[.bool bbyn,vyn,vyd],vm,.int .i64 t] w fun e w'=>e=.returned (.bool true)∧Below w.heap.size w w':=by
 obtain ⟨ao_xn,c_xn,rfl⟩:=HWxn.out.slice
 obtain ⟨ao_xd,c_xd,rfl⟩:=HWxd.out.slice
 obtain ⟨ao_yn,c_yn,rfl⟩:=HWyn.out.slice
 obtain ⟨ao_yd,c_yd,rfl⟩:=HWyd.out.slice
 obtain ⟨ao_m,c_m,rfl⟩:=HWm.out.slice
 go_enter Tryz.func8,Tryz.ntmps8
 have I:=lh_ (hp0 w)
 refine kS fun K O=>?_
 refine wp_region_lit ?_
 go_wp2
 refine kF_ O (((I.out).aL (w.heap.size)).aL (w.heap.size+1)) fun Wx0 J=>?_;clear O K
 clear I;have I:=J;clear J
 generalize w.heap.size+1=gx1 at *
 refine wp_seq ?_
 have hd1:¬ (2<((kxn:Int))):=ok
 have hd2:¬ (2<((kxd:Int))):=ok
 have hd3:¬ (2<((kyn:Int))):=ok
 have hd4:¬ (2<((kyd:Int))):=ok
 have hd5:6<((km:Int)):=ok
 have lx0:=kc0_ I
 have lx1:=kc1_ I
 refine qL2 fun K O T Y=>?_
 iterate 29 refine tk ?_
 refine nlS Y I fun vw1 J=>?_
 clear Y T I lx0 lx1
 go_wp2
 refine kO O ?_;clear O K
 have I:=J;clear J
 clear hd1 hd2 hd3 hd4 hd5
 refine wp_cond_true (by rfl) ?_
 have HB:=HPb I
 refine ks2_ fun K O T Y=>?_
 refine ck Tryz.call27 (fun w' hw=>qa9 _ (lh_ (HT.out.gr (Gr.trans HB.out hw)))) ?_
 refine tk ?_
 refine nlS Y I fun vw2 J=>?_
 clear Y T I HB
 go_wp2
 refine kO O ?_;clear O K
 have I:=J;clear J
 refine wp_ret ?_
 try simp only [Exit.then,Exit.inBlock]
 exact bodyPost_ret (v:=.bool true) (by simp [results,Tryz.results8,go_sem]) rfl ⟨rfl,I.out.1⟩
theorem xo5 (bbxn:Bool) (vxn:Value) (kxn:Nat) (fxn:Nat→Nat) (vxd:Value) (kxd:Nat) (fxd:Nat→Nat) (bbyn:Bool) (vyn:Value) (kyn:Nat) (fyn:Nat→Nat) (vyd:Value) (kyd:Nat) (fyd:Nat→Nat) (vm:Value) (km:Nat) (fm:Nat→Nat) (t:Int) (w:World) (HWxn:Hid (Wa w vxn kxn fxn)) (HFxn:Hid (∀ i,i<kxn→fxn i<4294967296)) (HWxd:Hid (Wa w vxd kxd fxd)) (HFxd:Hid (∀ i,i<kxd→fxd i<4294967296)) (HWyn:Hid (Wa w vyn kyn fyn)) (HFyn:Hid (∀ i,i<kyn→fyn i<4294967296)) (HWyd:Hid (Wa w vyd kyd fyd)) (HFyd:Hid (∀ i,i<kyd→fyd i<4294967296)) (HWm:Hid (Wa w vm km fm)) (HFm:Hid (∀ i,i<km→fm i<4294967296)) (ht1:-9223372036854775808≤t) (ht2:t≤9223372036854775807) (HT:Hid (Tab w)) :
  Calls Tryz.prog 8 #[.agg #[.bool bbxn,vxn,vxd],.agg #[.bool bbyn,vyn,vyd],vm,.int .i64 t] w fun e w'=>e=.returned (.bool true)∧Below w.heap.size w w':=by
 obtain ⟨ixn,HAxn⟩:∃ z,Hid ((if bbxn then -((vl fxn kxn:Nat):Int) else ((vl fxn kxn:Nat):Int))=z):=⟨_,lh_ rfl⟩
 obtain ⟨a,HQx⟩:∃ z,Hid (mkRat ixn (vl fxd kxd+1)=z):=⟨_,lh_ rfl⟩
 obtain ⟨iyn,HAyn⟩:∃ z,Hid ((if bbyn then -((vl fyn kyn:Nat):Int) else ((vl fyn kyn:Nat):Int))=z):=⟨_,lh_ rfl⟩
 obtain ⟨c,HQy⟩:∃ z,Hid (mkRat iyn (vl fyd kyd+1)=z):=⟨_,lh_ rfl⟩
 obtain ⟨n,HVm⟩:∃ z,Hid (vl fm km=z):=⟨_,lh_ rfl⟩
 by_cases hkxn:kxn≤2
 ·skip
  by_cases hkxd:kxd≤2
  ·skip
   by_cases hkyn:kyn≤2
   ·skip
    by_cases hkyd:kyd≤2
    ·skip
     by_cases hkm:km≤6
     ·skip
      obtain ⟨z1,b1,hb1⟩:=qO9 t n
      exact xe5 bbxn vxn kxn fxn _ ixn vxd kxd fxd _ a bbyn vyn kyn fyn _ iyn vyd kyd fyd _ c vm km fm n t _ _ z1 _ b1 w HWxn HFxn (lh_ rfl) HAxn HWxd HFxd (lh_ rfl) HQx HWyn HFyn (lh_ rfl) HAyn HWyd HFyd (lh_ rfl) HQy HWm HFm HVm hkxn hkxd hkyn hkyd hkm ht1 ht2 (lh_ hb1) (lh_ rfl) (lh_ (xu3 hb1)) (lh_ rfl) (lh_ rfl) (lh_ (xu4 hb1)) HT
     ·exact xe4 bbxn vxn kxn fxn _ ixn vxd kxd fxd _ a bbyn vyn kyn fyn _ iyn vyd kyd fyd _ c vm km fm n t w HWxn HFxn (lh_ rfl) HAxn HWxd HFxd (lh_ rfl) HQx HWyn HFyn (lh_ rfl) HAyn HWyd HFyd (lh_ rfl) HQy HWm HFm HVm  hkxn hkxd hkyn hkyd om HT
    ·exact xe3 bbxn vxn kxn fxn _ ixn vxd kxd fxd _ a bbyn vyn kyn fyn _ iyn vyd kyd fyd _ c vm km fm n t w HWxn HFxn (lh_ rfl) HAxn HWxd HFxd (lh_ rfl) HQx HWyn HFyn (lh_ rfl) HAyn HWyd HFyd (lh_ rfl) HQy HWm HFm HVm  hkxn hkxd hkyn om HT
   ·exact xe2 bbxn vxn kxn fxn _ ixn vxd kxd fxd _ a bbyn vyn kyn fyn _ iyn vyd kyd fyd _ c vm km fm n t w HWxn HFxn (lh_ rfl) HAxn HWxd HFxd (lh_ rfl) HQx HWyn HFyn (lh_ rfl) HAyn HWyd HFyd (lh_ rfl) HQy HWm HFm HVm  hkxn hkxd om HT
  ·exact xe1 bbxn vxn kxn fxn _ ixn vxd kxd fxd _ a bbyn vyn kyn fyn _ iyn vyd kyd fyd _ c vm km fm n t w HWxn HFxn (lh_ rfl) HAxn HWxd HFxd (lh_ rfl) HQx HWyn HFyn (lh_ rfl) HAyn HWyd HFyd (lh_ rfl) HQy HWm HFm HVm  hkxn om HT
 ·exact xe0 bbxn vxn kxn fxn _ ixn vxd kxd fxd _ a bbyn vyn kyn fyn _ iyn vyd kyd fyd _ c vm km fm n t w HWxn HFxn (lh_ rfl) HAxn HWxd HFxd (lh_ rfl) HQx HWyn HFyn (lh_ rfl) HAyn HWyd HFyd (lh_ rfl) HQy HWm HFm HVm   om HT
end Go.Proofs.YtobojnodohjiaaaGreatDoor
