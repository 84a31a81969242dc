
/- ReconsThere: the law's walk. -/
import Derived.Test.YtobojnodohjiaaaGreatDoorRecW
import Derived.Test.YtobojnodohjiaaaGreatDoorGreatP
import Derived.Test.YtobojnodohjiaaaGreatDoorHp2
import Derived.Test.YtobojnodohjiaaaGreatDoorLawZ2
set_option maxRecDepth 100000
set_option maxHeartbeats 16000000
set_option linter.unusedVariables false
set_option linter.unusedSimpArgs false
namespace Go.Proofs.YtobojnodohjiaaaGreatDoor
open Go.RowKit
attribute [local go_sem ↓] Go.wp_at_zero Go.wp_at_succ
attribute [local go_sem ↓] qb8 qa3 qc8 qd9 qb7
attribute [local go_sem] Instr.field asAgg
theorem xt7 (z:Int) (w:World) (hz:(1:Int)=z) :
  Calls Tryz.prog 23 #[.int .i64 1] w fun e w'=>e=.returned (Value.agg #[.int .u64 (lo z.natAbs),.string (bg z.natAbs),.bool (z<0)])∧Below w.heap.size w w':=hz ▸ qd3 1 w (by decide) (by decide)
theorem qN6 (bbxn:Bool) (vxn:Value) (kxn:Nat) (fxn:Nat→Nat) (mxn:Nat) (ixn:Int) (vxd:Value) (kxd:Nat) (fxd:Nat→Nat) (mxd:Nat) (a:Rat) (vm:Value) (km:Nat) (fm:Nat→Nat) (n:Nat) (bbz:Bool) (vz:Value) (kz:Nat) (fz:Nat→Nat) (mz:Nat) (b:Int) (z1 z2:Rat) (b1 b2:Bool) (gg x y at_ o1:Int) (w:World) (HWxn:Hid (Wa w vxn kxn fxn)) (HFxn:Hid (∀ i,i<kxn→fxn i<4294967296)) (HVxn:Hid (vl fxn kxn=mxn)) (HAxn:Hid ((if bbxn then -((mxn:Nat):Int) else ((mxn:Nat):Int))=ixn)) (HWxd:Hid (Wa w vxd kxd fxd)) (HFxd:Hid (∀ i,i<kxd→fxd i<4294967296)) (HVxd:Hid (vl fxd kxd=mxd)) (HQx:Hid (mkRat ixn (mxd+1)=a)) (HWm:Hid (Wa w vm km fm)) (HFm:Hid (∀ i,i<km→fm i<4294967296)) (HVm:Hid (vl fm km=n)) (HWz:Hid (Wa w vz kz fz)) (HFz:Hid (∀ i,i<kz→fz i<4294967296)) (HVz:Hid (vl fz kz=mz)) (HAz:Hid ((if bbz then -((mz:Nat):Int) else ((mz:Nat):Int))=b)) (hkxn:kxn≤4) (hkxd:kxd≤4) (hkm:km≤12) (hkz:kz≤12) (HB1:Hid (bk b n z1 b1)) (HG0:Hid ((egcd ((n:Nat):Int) ((a.den:Nat):Int)).1=gg)) (HGX:Hid ((egcd ((n:Nat):Int) ((a.den:Nat):Int)).2.1=x)) (HGY:Hid ((egcd ((n:Nat):Int) ((a.den:Nat):Int)).2.2=y)) (HAT:Hid (a.num*y=at_)) (HB2:Hid (bk at_ n z2 b2)) (HO1:Hid ((1:Int)=o1)) (HT:Hid (Tab w)) :
  Calls Tryz.prog 6 #[.agg #[.bool bbxn,vxn,vxd],vm,.agg #[.bool bbz,vz]] w fun e w'=>e=.returned (.bool true)∧Below w.heap.size w w':=by
 obtain ⟨ao_xn,c_xn,rfl⟩:=HWxn.out.slice
 obtain ⟨ao_xd,c_xd,rfl⟩:=HWxd.out.slice
 have hm_xn:wl mxn≤4:=by rw [← HVxn.out];have:=qb1.2 (qh4 HFxn.out);omega
 have hm_xd:wl mxd≤4:=by rw [← HVxd.out];have:=qb1.2 (qh4 HFxd.out);omega
 have hi_x:wl (Int.natAbs ixn)≤4:=by rw [qB2 HAxn.out];exact hm_xn
 have hs_x:sz a≤5:=by rw [← HQx.out];exact qx4 hi_x hm_xd
 obtain ⟨ao_m,c_m,rfl⟩:=HWm.out.slice
 have hb_n:wl n≤12:=by rw [← HVm.out];have:=qb1.2 (qh4 HFm.out);omega
 obtain ⟨ao_z,c_z,rfl⟩:=HWz.out.slice
 have hm_z:wl mz≤12:=by rw [← HVz.out];have:=qb1.2 (qh4 HFz.out);omega
 have hb_z:wl b.natAbs≤12:=by rw [qB2 HAz.out];exact hm_z
 go_enter Tryz.func6,Tryz.ntmps6
 have I:=lh_ (hp0 w)
 refine kS fun K O=>?_
 refine wp_region_lit ?_
 go_wp2
 refine kF_ O (((I.out).aL (w.heap.size)).aL (w.heap.size+1)) fun Wx0 J=>?_;clear O K
 clear I;have I:=J;clear J
 generalize w.heap.size+1=gx1 at *
 refine wp_seq ?_
 have hd1:¬ (4<((kxn:Int))):=ok
 have hd2:¬ (4<((kxd:Int))):=ok
 have hd3:¬ (12<((km:Int))):=ok
 have hd4:¬ (12<((kz:Int))):=ok
 have lx0:=kc0_ I
 have lx1:=kc1_ I
 refine qC7 fun K O T Y=>?_
 iterate 22 refine tk ?_
 refine nlS Y I fun vw1 J=>?_
 clear Y T I lx0 lx1
 go_wp2
 refine kO O ?_;clear O K
 have I:=J;clear J
 clear hd1 hd2 hd3 hd4
 refine wp_cond_false (by rfl) ?_
 refine wp_skip ?_
 show Code.wp _ _ _ _ _
 have HB:=HPb I
 have lx1:=kc1_ I
 refine kS fun K O=>?_
 refine qa1 6 [4,5] [] (fun i=>if i=4 then 7 else 8) (fun i=>if i=4 then .cells #[.int .u64 0,.string ⟨#[]⟩] 30 else .cells #[.int .u64 0,.string ⟨#[]⟩,.bool false] 34) [(true,0),(true,2),(true,1),(true,3)] (by kernel_rfl) (by kernel_rfl) (by intro i hi;simp only [List.mem_cons,List.not_mem_nil,or_false] at hi;rcases hi with rfl|rfl <;> exact ⟨_,rfl,rfl,rfl,by simp,fun ρ w=>by kernel_rfl⟩) (fun i hi=>by cases hi) (fun _ _ _ _ _ h=>h) (fun T Y=>?_)
 refine tk2_ ?_
 refine ck Tryz.call31 (fun w' hw=>xt8 _ km fm n w _ HVm.out om HWm.out (Gr.trans HB.out hw) HFm.out) ?_
 refine ck Tryz.call32 (fun w' hw=>zlof bbz kz fz mz b ao_z c_z w' (lh_ (HWz.out.gr (Gr.trans HB.out hw))) HFz HVz HAz om om) ?_
 refine qa0 (Y.out _ _ ?_)
 intro G vw2 hg hf
 simp only [puts,Act.put,lA,lB,lC,lD,lE,↓reduceIte,Nat.reduceEqDiff]
 have J:=lh_ (I.out.fr hg hf (zs:=[(#[.int .u64 0,.string ⟨#[]⟩],30),(#[.int .u64 0,.string ⟨#[]⟩,.bool false],34)]) rfl (by decide) (by decide))
 simp only [zq1_,zq2_,zq3_,zq4_,lF,lG] at J
 clear Y T I hg hf lx1 HB
 generalize G 4=gx3 at *
 generalize G 5=gx4 at *
 have lx3:=kc2_ J;have fx3:=kf2_ J
 have lx4:=kc3_ J;have fx4:=kf3_ J
 have r0:=Gr.refl vw2
 obtain ⟨d3_4,d4_3⟩:=J.out.ne 2 3 rfl rfl (by decide)
 go_wp2
 refine kO O ?_;clear O K
 clear r0 lx3 fx3 lx4 fx4 d3_4 d4_3
 refine fH (((((J.out).put2 2 0 rfl).put2 3 0 rfl).put 3 2 _ rfl).er 1) fun Wx3 I=>?_
 clear J
 have su1:sz z1≤12:=qj8 (HB1.out) om (by decide)
 have lx3:=kc1_ I
 have lx4:=kc2_ I
 refine ks6_ fun K O T Y=>?_
 refine tk2_ ?_
 refine ck Tryz.call22 (fun w' hw=>qt3 b n z1 b1 _ (HB1.out) om om) ?_
 refine tk3_ ?_
 refine nlS Y I fun vw3 J=>?_
 clear Y T I lx3 lx4
 go_wp2
 refine kF_ O ((J.out).aL (vw3.heap.size)) fun Wx4 I=>?_;clear O K
 clear J
 generalize vw3.heap.size=gx5 at *
 refine wp_seq ?_
 refine kS fun K O=>?_
 suffices HJ:Hid (∀ (g0 g1 g2 g4 g5 g6 g8 g9 g10 g11 g12 g13 g14 g15 g16 g17 g18 g19 g20 g21 g22 g23 g24 g25 g26 g27 g28 g29 g30 g31 g32 g33 g34 g35 g36 g37 g38 g39 g40 g41 g42 g43 g44 g45 g46 g47 g48 g49 g50 g51 g52 g53 g54 g55 g56 g57 g58 g59 g60 g61 g62 g63 g64 g65 g66 g67 g68 g69 g70 g71 g72 g74 g75 g76 g77 g78 g79 g80 g81 g82 g83 g84 g85 g86 g87 g88 g89 g90 g91 g92 g93 g94 g95 g96 g97 g98 g99 g100 g101 g102 g103 g104 g105 g106 g107 g108 g109 g110 g111 g112 g113 g114 g115 g116 g117 g118 g119 g120 g121 g122 g123 g124 g125 g126 g127 g128 g129 g130 g131 g132 g133 g134 g135 g136 g137 g138 g139 g140 g141 g142:Value) (wj:World),Hid (HP w wj [Sum.inl (w.heap.size,83,#[.bool bbxn,(.slice ao_xn kxn c_xn),(.slice ao_xd kxd c_xd)]),Sum.inl (gx3,30,#[.int .u64 (lo n),.string (bg n)])])→K { tmps:=#[g0,g1,g2,.pointer (some ⟨w.heap.size,0,none⟩),g4,g5,g6,.pointer (some ⟨gx3,0,none⟩),g8,g9,g10,g11,g12,g13,g14,g15,g16,g17,g18,g19,g20,g21,g22,g23,g24,g25,g26,g27,g28,g29,g30,g31,g32,g33,g34,g35,g36,g37,g38,g39,g40,g41,g42,g43,g44,g45,g46,g47,g48,g49,g50,g51,g52,g53,g54,g55,g56,g57,g58,g59,g60,g61,g62,g63,g64,g65,g66,g67,g68,g69,g70,g71,g72,.bool false,g74,g75,g76,g77,g78,g79,g80,g81,g82,g83,g84,g85,g86,g87,g88,g89,g90,g91,g92,g93,g94,g95,g96,g97,g98,g99,g100,g101,g102,g103,g104,g105,g106,g107,g108,g109,g110,g111,g112,g113,g114,g115,g116,g117,g118,g119,g120,g121,g122,g123,g124,g125,g126,g127,g128,g129,g130,g131,g132,g133,g134,g135,g136,g137,g138,g139,g140,g141,g142],defers:=[] } wj) by
  rcases HB1.out with ⟨rfl,h1,h2⟩|⟨rfl,rfl,h3⟩
  ·have HZ1:=lh_ h1
   have HZ2:=lh_ h2
   clear h1 h2
   have lx3:=kc1_ I
   have lx4:=kc2_ I
   have lx5:=kc3_ I
   refine xA_ fun T Y=>?_
   iterate 5 refine tk ?_
   refine ck Tryz.call33 (fun w' hw=>ql8 z1 b n true _ (decide_eq_true (HZ2.out)) om om om) ?_
   iterate 4 refine tk ?_
   refine ck Tryz.call34 (fun w' hw=>rFar z1 n true _ (decide_eq_true (HZ1.out)) om om) ?_
   iterate 7 refine tk ?_
   iterate 3 refine sk ?_
   refine tk2_ ?_
   refine nlS Y I fun vw4 J=>?_
   clear Y T I lx3 lx4 lx5
   go_wp2
   exact HJ.out _ _ _ _ _ _ _ _ _ _ _ _ _ _ _ _ _ _ _ _ _ _ _ _ _ _ _ _ _ _ _ _ _ _ _ _ _ _ _ _ _ _ _ _ _ _ _ _ _ _ _ _ _ _ _ _ _ _ _ _ _ _ _ _ _ _ _ _ _ _ _ _ _ _ _ _ _ _ _ _ _ _ _ _ _ _ _ _ _ _ _ _ _ _ _ _ _ _ _ _ _ _ _ _ _ _ _ _ _ _ _ _ _ _ _ _ _ _ _ _ _ _ _ _ _ _ _ _ _ _ _ _ _ _ _ _ _ _ _ _ _ (lh_ (((J.out).er 3).er 2))
  ·clear h3
   have lx3:=kc1_ I
   have lx4:=kc2_ I
   have lx5:=kc3_ I
   refine xA_ fun T Y=>?_
   refine tk2_ ?_
   iterate 11 refine sk ?_
   iterate 10 refine tk ?_
   refine nlS Y I fun vw4 J=>?_
   clear Y T I lx3 lx4 lx5
   go_wp2
   exact HJ.out _ _ _ _ _ _ _ _ _ _ _ _ _ _ _ _ _ _ _ _ _ _ _ _ _ _ _ _ _ _ _ _ _ _ _ _ _ _ _ _ _ _ _ _ _ _ _ _ _ _ _ _ _ _ _ _ _ _ _ _ _ _ _ _ _ _ _ _ _ _ _ _ _ _ _ _ _ _ _ _ _ _ _ _ _ _ _ _ _ _ _ _ _ _ _ _ _ _ _ _ _ _ _ _ _ _ _ _ _ _ _ _ _ _ _ _ _ _ _ _ _ _ _ _ _ _ _ _ _ _ _ _ _ _ _ _ _ _ _ _ _ (lh_ (((J.out).er 3).er 2))
 refine lh_ ?_
 intro g0 g1 g2 g4 g5 g6 g8 g9 g10 g11 g12 g13 g14 g15 g16 g17 g18 g19 g20 g21 g22 g23 g24 g25 g26 g27 g28 g29 g30 g31 g32 g33 g34 g35 g36 g37 g38 g39 g40 g41 g42 g43 g44 g45 g46 g47 g48 g49 g50 g51 g52 g53 g54 g55 g56 g57 g58 g59 g60 g61 g62 g63 g64 g65 g66 g67 g68 g69 g70 g71 g72 g74 g75 g76 g77 g78 g79 g80 g81 g82 g83 g84 g85 g86 g87 g88 g89 g90 g91 g92 g93 g94 g95 g96 g97 g98 g99 g100 g101 g102 g103 g104 g105 g106 g107 g108 g109 g110 g111 g112 g113 g114 g115 g116 g117 g118 g119 g120 g121 g122 g123 g124 g125 g126 g127 g128 g129 g130 g131 g132 g133 g134 g135 g136 g137 g138 g139 g140 g141 g142 wj HFJ
 clear I;have I:=HFJ;clear HFJ
 refine kO O ?_;clear O K
 refine wp_cond_false (by rfl) ?_
 refine wp_skip ?_
 show Code.wp _ _ _ _ _
 have HB:=HPb I
 have lx0:=kc0_ I
 refine ks2_ fun K O T Y=>?_
 refine tk ?_
 refine ck Tryz.call35 (fun w' hw=>qC3 bbxn kxn fxn mxn ixn kxd fxd mxd a ao_xn c_xn ao_xd c_xd w' (lh_ (HWxn.out.gr (Gr.trans HB.out hw))) HFxn HVxn HAxn (lh_ (HWxd.out.gr (Gr.trans HB.out hw))) HFxd HVxd HQx om om om om) ?_
 refine nlS Y I fun vw4 J=>?_
 clear Y T I lx0 HB
 go_wp2
 refine kF_ O (((J.out).aL (vw4.heap.size)).er 0) fun Wx7 I=>?_;clear O K
 clear J
 generalize vw4.heap.size=gx6 at *
 have HZ2:Hid ((if false then -((n:Nat):Int) else ((n:Nat):Int))=((n:Nat):Int)):=lh_ (by rfl)
 have su2:wl (Int.natAbs (((n:Nat):Int)))≤12:=by have e:=HZ2.out;first|omega|(rw [← e];split <;> simp <;> omega)
 have su3:wl (a.den)≤5:=Nat.le_trans (qb_ _) om
 have sp3:0<(a).den:=(a).den_pos
 have HZ4:Hid ((if false then -((a.den:Nat):Int) else ((a.den:Nat):Int))=((a.den:Nat):Int)):=lh_ (by rfl)
 have su4:wl (Int.natAbs (((a.den:Nat):Int)))≤5:=by have e:=HZ4.out;first|omega|(rw [← e];split <;> simp <;> omega)
 have HZ5:Hid ((egcd (((n:Nat):Int)) (((a.den:Nat):Int))).1=gg):=lh_ (HG0.out)
 have su5:wl gg.natAbs≤20:=by have e:=HZ5.out;first|omega|(rw [← e];have:=qj3 (a:=((n:Nat):Int)) (b:=((a.den:Nat):Int)) (M:=12) om om (by decide);omega)
 have HZ6:Hid ((egcd (((n:Nat):Int)) (((a.den:Nat):Int))).2.1=x):=lh_ (HGX.out)
 have su6:wl x.natAbs≤20:=by have e:=HZ6.out;first|omega|(rw [← e];have:=qj3 (a:=((n:Nat):Int)) (b:=((a.den:Nat):Int)) (M:=12) om om (by decide);omega)
 have HZ7:Hid ((egcd (((n:Nat):Int)) (((a.den:Nat):Int))).2.2=y):=lh_ (HGY.out)
 have su7:wl y.natAbs≤20:=by have e:=HZ7.out;first|omega|(rw [← e];have:=qj3 (a:=((n:Nat):Int)) (b:=((a.den:Nat):Int)) (M:=12) om om (by decide);omega)
 have lx3:=kc0_ I
 have lx6:=kc1_ I
 refine kS fun K O=>?_
 refine qa1 13 [10,11,12] [8,9] (fun i=>if i=10 then 12 else if i=11 then 13 else 14) (fun i=>if i=10 then .cells #[.int .u64 0,.string ⟨#[]⟩,.bool false] 34 else if i=11 then .cells #[.int .u64 0,.string ⟨#[]⟩,.bool false] 34 else .cells #[.int .u64 0,.string ⟨#[]⟩,.bool false] 34) [(true,0),(true,2),(true,1),(true,3),(true,4),(true,5),(true,6),(true,7),(true,8),(true,9)] (by kernel_rfl) (by kernel_rfl) (by intro i hi;simp only [List.mem_cons,List.not_mem_nil,or_false] at hi;rcases hi with rfl|rfl|rfl <;> exact ⟨_,rfl,rfl,rfl,by simp,fun ρ w=>by kernel_rfl⟩) (by intro i hi;simp only [List.mem_cons,List.not_mem_nil,or_false] at hi;rcases hi with rfl|rfl <;> exact ⟨_,rfl,qa_⟩) (fun _ _ _ _ _ h=>h) (fun T Y=>?_)
 refine tk2_ ?_
 refine ck Tryz.call37 (fun w' hw=>qb2 false n (((n:Nat):Int)) _ HZ2.out) ?_
 refine ck Tryz.call38 (fun w' hw=>qf5 a _ om) ?_
 refine ck Tryz.call37 (fun w' hw=>qb2 false (a.den) (((a.den:Nat):Int)) _ HZ4.out) ?_
 refine ck Tryz.call36 (fun w' hw=>xt6 (((n:Nat):Int)) (((a.den:Nat):Int)) gg x y _ HZ5.out HZ6.out HZ7.out om om) ?_
 iterate 4 refine tk ?_
 refine qa0 (Y.out _ _ ?_)
 intro G vw5 hg hf
 simp only [puts,Act.put,lA,lB,lC,lD,lE,↓reduceIte,Nat.reduceEqDiff]
 have J:=lh_ (I.out.fr hg hf (zs:=[(#[.int .u64 0,.string ⟨#[]⟩,.bool false],34),(#[.int .u64 0,.string ⟨#[]⟩,.bool false],34),(#[.int .u64 0,.string ⟨#[]⟩,.bool false],34)]) rfl (by decide) (by decide))
 simp only [zq1_,zq2_,zq3_,zq4_,lF,lG] at J
 clear Y T I hg hf lx3 lx6
 generalize G 10=gx7 at *
 generalize G 11=gx8 at *
 generalize G 12=gx9 at *
 have lx7:=kc2_ J;have fx7:=kf2_ J
 have lx8:=kc3_ J;have fx8:=kf3_ J
 have lx9:=kc4_ J;have fx9:=kf4_ J
 have r0:=Gr.refl vw5
 obtain ⟨d7_8,d8_7⟩:=J.out.ne 2 3 rfl rfl (by decide)
 obtain ⟨d7_9,d9_7⟩:=J.out.ne 2 4 rfl rfl (by decide)
 obtain ⟨d8_9,d9_8⟩:=J.out.ne 3 4 rfl rfl (by decide)
 go_wp2
 refine kO O ?_;clear O K
 clear r0 lx7 fx7 lx8 fx8 lx9 fx9 d7_8 d8_7 d7_9 d9_7 d8_9 d9_8
 refine fH ((((((((J.out).put2 2 0 rfl).put 2 2 _ rfl).put2 3 0 rfl).put 3 2 _ rfl).put2 4 0 rfl).put 4 2 _ rfl).er 3) fun Wx8 I=>?_
 clear J
 refine wp_seq ?_
 by_cases hg1:gg=1
 ·by_cases hn0:n=0
  ·have HG1:=lh_ hg1
   have HN0:=lh_ hn0
   clear hg1 hn0
   have su8:wl (Int.natAbs o1)≤1:=by rw [← HO1.out];exact qb1.2 (by decide +kernel)
   have hd5:decide (gg=o1)=true:=decide_eq_true (by first|exact ok|exact HG1.out.trans HO1.out|exact HN0.out)
   have hd6:decide (n=0)=true:=decide_eq_true (by first|exact ok|exact HG1.out.trans HO1.out|exact HN0.out)
   have lx3:=kc0_ I
   have lx7:=kc2_ I
   refine kS fun K O=>?_
   refine xo_ fun T Y=>?_
   refine tk ?_
   refine ck Tryz.call23 (fun w' hw=>xt7 o1 _ HO1.out) ?_
   iterate 5 refine tk ?_
   refine nlD Y I fun vw6 J=>?_
   clear Y T I lx3 lx7
   go_wp2
   refine kF_ O ((J.out).er 2) fun Wx9 I=>?_;clear O K
   clear J
   clear hd5 hd6
   refine wp_cond_true (by rfl) ?_
   have HB:=HPb I
   refine ks2_ fun K O T Y=>?_
   refine ck Tryz.call27 (fun w' hw=>qa9 _ (lh_ (HT.out.gr (Gr.trans HB.out hw)))) ?_
   refine tk ?_
   refine nlS Y I fun vw7 J=>?_
   clear Y T I HB
   go_wp2
   refine kO O ?_;clear O K
   have I:=J;clear J
   refine wp_ret ?_
   try simp only [Exit.then,Exit.inBlock]
   exact bodyPost_ret (v:=.bool true) (by simp [results,Tryz.results6,go_sem]) rfl ⟨rfl,I.out.1⟩
  ·have HG1:=lh_ hg1
   have HN0:=lh_ hn0
   have HFT:Hid (rfit a at_ n):=lh_ (by rw [← HAT.out];exact qW7 hn0 (HG0.out.trans hg1) HGY.out)
   clear hg1 hn0
   have su8:wl (Int.natAbs o1)≤1:=by rw [← HO1.out];exact qb1.2 (by decide +kernel)
   have hd5:decide (gg=o1)=true:=decide_eq_true (by first|exact ok|exact HG1.out.trans HO1.out|exact HN0.out)
   have hd6:decide (n=0)=false:=decide_eq_false (by first|exact ok|exact HG1.out.trans HO1.out|exact HN0.out)
   have lx3:=kc0_ I
   have lx7:=kc2_ I
   refine kS fun K O=>?_
   refine xo_ fun T Y=>?_
   refine tk ?_
   refine ck Tryz.call23 (fun w' hw=>xt7 o1 _ HO1.out) ?_
   iterate 5 refine tk ?_
   refine nlD Y I fun vw6 J=>?_
   clear Y T I lx3 lx7
   go_wp2
   refine kF_ O ((J.out).er 2) fun Wx9 I=>?_;clear O K
   clear J
   clear hd5 hd6
   refine wp_cond_false (by rfl) ?_
   refine wp_skip ?_
   show Code.wp _ _ _ _ _
   have su9:wl a.num.natAbs≤5:=Nat.le_trans (qc3 _) om
   have HZ10:Hid ((a.num)*(y)=at_):=lh_ (HAT.out)
   have su10:wl at_.natAbs≤25:=by have e:=HZ10.out;first|omega|(rw [← e];have:=qd7 (a.num) y;omega)
   have lx6:=kc1_ I
   have lx9:=kc2_ I
   refine kS fun K O=>?_
   refine qa1 5 [4] [] (fun _=>15) (fun _=>.cells #[.int .u64 0,.string ⟨#[]⟩,.bool false] 34) [(true,0),(true,2),(true,1),(true,3)] (by kernel_rfl) (by kernel_rfl) (by intro i hi;simp only [List.mem_cons,List.not_mem_nil,or_false] at hi;rcases hi with rfl <;> exact ⟨_,rfl,rfl,rfl,by simp,fun ρ w=>by kernel_rfl⟩) (fun i hi=>by cases hi) (fun _ _ _ _ _ h=>h) (fun T Y=>?_)
   refine tk2_ ?_
   refine ck Tryz.call40 (fun w' hw=>qh8 a _) ?_
   refine ck Tryz.call39 (fun w' hw=>ql_ (a.num) y at_ _ HZ10.out om om) ?_
   refine qa0 (Y.out _ _ ?_)
   intro G vw7 hg hf
   simp only [puts,Act.put,lA,lB,lC,lD,lE,↓reduceIte,Nat.reduceEqDiff]
   have J:=lh_ (I.out.fr hg hf (zs:=[(#[.int .u64 0,.string ⟨#[]⟩,.bool false],34)]) rfl (by decide) (by decide))
   simp only [zq1_,zq2_,zq3_,zq4_,lF,lG] at J
   clear Y T I hg hf lx6 lx9
   generalize G 4=gx10 at *
   have lx10:=kc3_ J;have fx10:=kf3_ J
   have r0:=Gr.refl vw7
   go_wp2
   refine kO O ?_;clear O K
   clear r0 lx10 fx10
   refine fH ((((J.out).put2 3 0 rfl).put 3 2 _ rfl).er 2) fun Wx11 I=>?_
   clear J
   refine wp_seq ?_
   have lx3:=kc0_ I
   have lx6:=kc1_ I
   have lx10:=kc2_ I
   refine ks5_ fun K O T Y=>?_
   refine tk3_ ?_
   refine ck Tryz.call33 (fun w' hw=>ql8 a at_ n true _ (decide_eq_true (HFT.out)) om om om) ?_
   refine tk ?_
   refine nlS Y I fun vw8 J=>?_
   clear Y T I lx3 lx6 lx10
   go_wp2
   refine kO O ?_;clear O K
   have I:=J;clear J
   refine wp_cond_false (by rfl) ?_
   refine wp_skip ?_
   show Code.wp _ _ _ _ _
   have su11:sz z2≤12:=qj8 (HB2.out) om (by decide)
   have lx3:=kc0_ I
   have lx10:=kc2_ I
   refine ks6_ fun K O T Y=>?_
   refine tk2_ ?_
   refine ck Tryz.call22 (fun w' hw=>qt3 at_ n z2 b2 _ (HB2.out) om om) ?_
   refine tk3_ ?_
   refine nlS Y I fun vw9 J=>?_
   clear Y T I lx3 lx10
   go_wp2
   refine kF_ O ((J.out).aL (vw9.heap.size)) fun Wx14 I=>?_;clear O K
   clear J
   generalize vw9.heap.size=gx11 at *
   refine wp_seq ?_
   by_cases hfar:rfar a n
   ·have HFA:=lh_ hfar
    obtain ⟨rfl,rfl⟩:a=z2∧true=b2:=by have e9:=qy1 HB2.out hfar HFT.out;exact ⟨e9.1.symm,e9.2.symm⟩
    clear hfar
    have lx3:=kc0_ I
    have lx6:=kc1_ I
    refine ks3_ fun K O T Y=>?_
    refine tk2_ ?_
    refine ck Tryz.call34 (fun w' hw=>rFar a n true _ (decide_eq_true (HFA.out)) om om) ?_
    refine nlS Y I fun vw10 J=>?_
    clear Y T I lx3 lx6
    go_wp2
    refine kO O ?_;clear O K
    have I:=J;clear J
    refine wp_cond_true (by rfl) ?_
    have HB:=HPb I
    have lx6:=kc1_ I
    have lx11:=kc3_ I
    refine qT2 fun K O T Y=>?_
    iterate 7 refine tk ?_
    refine ck Tryz.call27 (fun w' hw=>qa9 _ (lh_ (HT.out.gr (Gr.trans HB.out hw)))) ?_
    refine tk2_ ?_
    refine nlS Y I fun vw11 J=>?_
    clear Y T I lx6 lx11 HB
    go_wp2
    refine kO O ?_;clear O K
    have I:=J;clear J
    refine wp_ret ?_
    try simp only [Exit.then,Exit.inBlock]
    exact bodyPost_ret (v:=.bool true) (by simp [results,Tryz.results6,go_sem]) rfl ⟨rfl,I.out.1⟩
   ·have HFA:=lh_ hfar
    rcases HB2.out with ⟨rfl,h1,h2⟩|⟨rfl,rfl,h3⟩
    ·have HZ1:=lh_ h1
     have HZ2:=lh_ h2
     have HNE:Hid (¬ z2=a):=lh_ (fun e=>by subst e;exact hfar h1)
     clear h1 h2 hfar
     have lx3:=kc0_ I
     have lx6:=kc1_ I
     refine ks3_ fun K O T Y=>?_
     refine tk2_ ?_
     refine ck Tryz.call34 (fun w' hw=>rFar a n false _ (decide_eq_false (HFA.out)) om om) ?_
     refine nlS Y I fun vw10 J=>?_
     clear Y T I lx3 lx6
     go_wp2
     refine kO O ?_;clear O K
     have I:=J;clear J
     refine wp_cond_false (by rfl) ?_
     refine wp_skip ?_
     show Code.wp _ _ _ _ _
     have HB:=HPb I
     have hd7:decide (z2=a)=false:=decide_eq_false (by first|exact ok|exact HNE.out|exact HG1.out.trans HO1.out|exact HN0.out)
     have lx3:=kc0_ I
     have lx6:=kc1_ I
     have lx10:=kc2_ I
     have lx11:=kc3_ I
     refine qC7 fun K O T Y=>?_
     iterate 10 refine tk ?_
     refine ck Tryz.call33 (fun w' hw=>ql8 z2 at_ n true _ (decide_eq_true (HZ2.out)) om om om) ?_
     iterate 4 refine tk ?_
     refine ck Tryz.call34 (fun w' hw=>rFar z2 n true _ (decide_eq_true (HZ1.out)) om om) ?_
     refine tk3_ ?_
     refine ck Tryz.call27 (fun w' hw=>qa9 _ (lh_ (HT.out.gr (Gr.trans HB.out hw)))) ?_
     refine tk2_ ?_
     refine nlS Y I fun vw11 J=>?_
     clear Y T I lx3 lx6 lx10 lx11 HB
     go_wp2
     refine kF_ O (((((J.out).er 3).er 2).er 1).er 0) fun Wx17 I=>?_;clear O K
     clear J
     clear hd7
     refine wp_ret ?_
     try simp only [Exit.then,Exit.inBlock]
     exact bodyPost_ret (v:=.bool true) (by simp [results,Tryz.results6,go_sem]) rfl ⟨rfl,I.out.1⟩
    ·clear h3 hfar
     have lx3:=kc0_ I
     have lx6:=kc1_ I
     refine ks3_ fun K O T Y=>?_
     refine tk2_ ?_
     refine ck Tryz.call34 (fun w' hw=>rFar a n false _ (decide_eq_false (HFA.out)) om om) ?_
     refine nlS Y I fun vw10 J=>?_
     clear Y T I lx3 lx6
     go_wp2
     refine kO O ?_;clear O K
     have I:=J;clear J
     refine wp_cond_false (by rfl) ?_
     refine wp_skip ?_
     show Code.wp _ _ _ _ _
     have HB:=HPb I
     have lx3:=kc0_ I
     have lx6:=kc1_ I
     have lx10:=kc2_ I
     have lx11:=kc3_ I
     refine qC7 fun K O T Y=>?_
     refine tk3_ ?_
     iterate 14 refine sk ?_
     refine tk2_ ?_
     refine ck Tryz.call27 (fun w' hw=>qa9 _ (lh_ (HT.out.gr (Gr.trans HB.out hw)))) ?_
     refine tk2_ ?_
     refine nlS Y I fun vw11 J=>?_
     clear Y T I lx3 lx6 lx10 lx11 HB
     go_wp2
     refine kF_ O (((((J.out).er 3).er 2).er 1).er 0) fun Wx17 I=>?_;clear O K
     clear J
     refine wp_ret ?_
     try simp only [Exit.then,Exit.inBlock]
     exact bodyPost_ret (v:=.bool true) (by simp [results,Tryz.results6,go_sem]) rfl ⟨rfl,I.out.1⟩
 ·have HG1:=lh_ hg1
  clear hg1
  have su8:wl (Int.natAbs o1)≤1:=by rw [← HO1.out];exact qb1.2 (by decide +kernel)
  have hd5:decide (gg=o1)=false:=decide_eq_false (by first|exact ok|exact fun e9=>HG1.out (e9.trans HO1.out.symm))
  have lx3:=kc0_ I
  have lx7:=kc2_ I
  refine kS fun K O=>?_
  refine xo_ fun T Y=>?_
  refine tk ?_
  refine ck Tryz.call23 (fun w' hw=>xt7 o1 _ HO1.out) ?_
  refine tk2_ ?_
  iterate 3 refine sk ?_
  refine nlD Y I fun vw6 J=>?_
  clear Y T I lx3 lx7
  go_wp2
  refine kF_ O ((J.out).er 2) fun Wx9 I=>?_;clear O K
  clear J
  clear hd5
  refine wp_cond_true (by rfl) ?_
  have HB:=HPb I
  refine ks2_ fun K O T Y=>?_
  refine ck Tryz.call27 (fun w' hw=>qa9 _ (lh_ (HT.out.gr (Gr.trans HB.out hw)))) ?_
  refine tk ?_
  refine nlS Y I fun vw7 J=>?_
  clear Y T I HB
  go_wp2
  refine kO O ?_;clear O K
  have I:=J;clear J
  refine wp_ret ?_
  try simp only [Exit.then,Exit.inBlock]
  exact bodyPost_ret (v:=.bool true) (by simp [results,Tryz.results6,go_sem]) rfl ⟨rfl,I.out.1⟩
theorem qN2 (bbxn:Bool) (vxn:Value) (kxn:Nat) (fxn:Nat→Nat) (mxn:Nat) (ixn:Int) (vxd:Value) (kxd:Nat) (fxd:Nat→Nat) (mxd:Nat) (a:Rat) (vm:Value) (km:Nat) (fm:Nat→Nat) (n:Nat) (bbz:Bool) (vz:Value) (kz:Nat) (fz:Nat→Nat) (mz:Nat) (b:Int)  (w:World) (HWxn:Hid (Wa w vxn kxn fxn)) (HFxn:Hid (∀ i,i<kxn→fxn i<4294967296)) (HVxn:Hid (vl fxn kxn=mxn)) (HAxn:Hid ((if bbxn then -((mxn:Nat):Int) else ((mxn:Nat):Int))=ixn)) (HWxd:Hid (Wa w vxd kxd fxd)) (HFxd:Hid (∀ i,i<kxd→fxd i<4294967296)) (HVxd:Hid (vl fxd kxd=mxd)) (HQx:Hid (mkRat ixn (mxd+1)=a)) (HWm:Hid (Wa w vm km fm)) (HFm:Hid (∀ i,i<km→fm i<4294967296)) (HVm:Hid (vl fm km=n)) (HWz:Hid (Wa w vz kz fz)) (HFz:Hid (∀ i,i<kz→fz i<4294967296)) (HVz:Hid (vl fz kz=mz)) (HAz:Hid ((if bbz then -((mz:Nat):Int) else ((mz:Nat):Int))=b))  (hkxn:4<kxn) (HT:Hid (Tab w)) :
  Calls Tryz.prog 6 #[.agg #[.bool bbxn,vxn,vxd],vm,.agg #[.bool bbz,vz]] w fun e w'=>e=.returned (.bool true)∧Below w.heap.size w w':=by
 obtain ⟨ao_xn,c_xn,rfl⟩:=HWxn.out.slice
 obtain ⟨ao_xd,c_xd,rfl⟩:=HWxd.out.slice
 obtain ⟨ao_m,c_m,rfl⟩:=HWm.out.slice
 obtain ⟨ao_z,c_z,rfl⟩:=HWz.out.slice
 go_enter Tryz.func6,Tryz.ntmps6
 have I:=lh_ (hp0 w)
 refine kS fun K O=>?_
 refine wp_region_lit ?_
 go_wp2
 refine kF_ O (((I.out).aL (w.heap.size)).aL (w.heap.size+1)) fun Wx0 J=>?_;clear O K
 clear I;have I:=J;clear J
 generalize w.heap.size+1=gx1 at *
 refine wp_seq ?_
 have hd1:4<((kxn:Int)):=ok
 have lx0:=kc0_ I
 refine qC7 fun K O T Y=>?_
 iterate 6 refine tk ?_
 iterate 4 refine sk ?_
 refine tk2_ ?_
 iterate 3 refine sk ?_
 refine tk2_ ?_
 iterate 4 refine sk ?_
 refine tk ?_
 refine nlS Y I fun vw1 J=>?_
 clear Y T I lx0
 go_wp2
 refine kO O ?_;clear O K
 have I:=J;clear J
 clear hd1
 refine wp_cond_true (by rfl) ?_
 have HB:=HPb I
 refine ks2_ fun K O T Y=>?_
 refine ck Tryz.call27 (fun w' hw=>qa9 _ (lh_ (HT.out.gr (Gr.trans HB.out hw)))) ?_
 refine tk ?_
 refine nlS Y I fun vw2 J=>?_
 clear Y T I HB
 go_wp2
 refine kO O ?_;clear O K
 have I:=J;clear J
 refine wp_ret ?_
 try simp only [Exit.then,Exit.inBlock]
 exact bodyPost_ret (v:=.bool true) (by simp [results,Tryz.results6,go_sem]) rfl ⟨rfl,I.out.1⟩
theorem qN3 (bbxn:Bool) (vxn:Value) (kxn:Nat) (fxn:Nat→Nat) (mxn:Nat) (ixn:Int) (vxd:Value) (kxd:Nat) (fxd:Nat→Nat) (mxd:Nat) (a:Rat) (vm:Value) (km:Nat) (fm:Nat→Nat) (n:Nat) (bbz:Bool) (vz:Value) (kz:Nat) (fz:Nat→Nat) (mz:Nat) (b:Int)  (w:World) (HWxn:Hid (Wa w vxn kxn fxn)) (HFxn:Hid (∀ i,i<kxn→fxn i<4294967296)) (HVxn:Hid (vl fxn kxn=mxn)) (HAxn:Hid ((if bbxn then -((mxn:Nat):Int) else ((mxn:Nat):Int))=ixn)) (HWxd:Hid (Wa w vxd kxd fxd)) (HFxd:Hid (∀ i,i<kxd→fxd i<4294967296)) (HVxd:Hid (vl fxd kxd=mxd)) (HQx:Hid (mkRat ixn (mxd+1)=a)) (HWm:Hid (Wa w vm km fm)) (HFm:Hid (∀ i,i<km→fm i<4294967296)) (HVm:Hid (vl fm km=n)) (HWz:Hid (Wa w vz kz fz)) (HFz:Hid (∀ i,i<kz→fz i<4294967296)) (HVz:Hid (vl fz kz=mz)) (HAz:Hid ((if bbz then -((mz:Nat):Int) else ((mz:Nat):Int))=b)) (hkxn:kxn≤4) (hkxd:4<kxd) (HT:Hid (Tab w)) :
  Calls Tryz.prog 6 #[.agg #[.bool bbxn,vxn,vxd],vm,.agg #[.bool bbz,vz]] w fun e w'=>e=.returned (.bool true)∧Below w.heap.size w w':=by
 obtain ⟨ao_xn,c_xn,rfl⟩:=HWxn.out.slice
 obtain ⟨ao_xd,c_xd,rfl⟩:=HWxd.out.slice
 obtain ⟨ao_m,c_m,rfl⟩:=HWm.out.slice
 obtain ⟨ao_z,c_z,rfl⟩:=HWz.out.slice
 go_enter Tryz.func6,Tryz.ntmps6
 have I:=lh_ (hp0 w)
 refine kS fun K O=>?_
 refine wp_region_lit ?_
 go_wp2
 refine kF_ O (((I.out).aL (w.heap.size)).aL (w.heap.size+1)) fun Wx0 J=>?_;clear O K
 clear I;have I:=J;clear J
 generalize w.heap.size+1=gx1 at *
 refine wp_seq ?_
 have hd1:¬ (4<((kxn:Int))):=ok
 have hd2:4<((kxd:Int)):=ok
 have lx0:=kc0_ I
 refine qC7 fun K O T Y=>?_
 iterate 12 refine tk ?_
 iterate 3 refine sk ?_
 refine tk2_ ?_
 iterate 4 refine sk ?_
 refine tk ?_
 refine nlS Y I fun vw1 J=>?_
 clear Y T I lx0
 go_wp2
 refine kO O ?_;clear O K
 have I:=J;clear J
 clear hd1 hd2
 refine wp_cond_true (by rfl) ?_
 have HB:=HPb I
 refine ks2_ fun K O T Y=>?_
 refine ck Tryz.call27 (fun w' hw=>qa9 _ (lh_ (HT.out.gr (Gr.trans HB.out hw)))) ?_
 refine tk ?_
 refine nlS Y I fun vw2 J=>?_
 clear Y T I HB
 go_wp2
 refine kO O ?_;clear O K
 have I:=J;clear J
 refine wp_ret ?_
 try simp only [Exit.then,Exit.inBlock]
 exact bodyPost_ret (v:=.bool true) (by simp [results,Tryz.results6,go_sem]) rfl ⟨rfl,I.out.1⟩
theorem qN4 (bbxn:Bool) (vxn:Value) (kxn:Nat) (fxn:Nat→Nat) (mxn:Nat) (ixn:Int) (vxd:Value) (kxd:Nat) (fxd:Nat→Nat) (mxd:Nat) (a:Rat) (vm:Value) (km:Nat) (fm:Nat→Nat) (n:Nat) (bbz:Bool) (vz:Value) (kz:Nat) (fz:Nat→Nat) (mz:Nat) (b:Int)  (w:World) (HWxn:Hid (Wa w vxn kxn fxn)) (HFxn:Hid (∀ i,i<kxn→fxn i<4294967296)) (HVxn:Hid (vl fxn kxn=mxn)) (HAxn:Hid ((if bbxn then -((mxn:Nat):Int) else ((mxn:Nat):Int))=ixn)) (HWxd:Hid (Wa w vxd kxd fxd)) (HFxd:Hid (∀ i,i<kxd→fxd i<4294967296)) (HVxd:Hid (vl fxd kxd=mxd)) (HQx:Hid (mkRat ixn (mxd+1)=a)) (HWm:Hid (Wa w vm km fm)) (HFm:Hid (∀ i,i<km→fm i<4294967296)) (HVm:Hid (vl fm km=n)) (HWz:Hid (Wa w vz kz fz)) (HFz:Hid (∀ i,i<kz→fz i<4294967296)) (HVz:Hid (vl fz kz=mz)) (HAz:Hid ((if bbz then -((mz:Nat):Int) else ((mz:Nat):Int))=b)) (hkxn:kxn≤4) (hkxd:kxd≤4) (hkm:12<km) (HT:Hid (Tab w)) :
  Calls Tryz.prog 6 #[.agg #[.bool bbxn,vxn,vxd],vm,.agg #[.bool bbz,vz]] w fun e w'=>e=.returned (.bool true)∧Below w.heap.size w w':=by
 obtain ⟨ao_xn,c_xn,rfl⟩:=HWxn.out.slice
 obtain ⟨ao_xd,c_xd,rfl⟩:=HWxd.out.slice
 obtain ⟨ao_m,c_m,rfl⟩:=HWm.out.slice
 obtain ⟨ao_z,c_z,rfl⟩:=HWz.out.slice
 go_enter Tryz.func6,Tryz.ntmps6
 have I:=lh_ (hp0 w)
 refine kS fun K O=>?_
 refine wp_region_lit ?_
 go_wp2
 refine kF_ O (((I.out).aL (w.heap.size)).aL (w.heap.size+1)) fun Wx0 J=>?_;clear O K
 clear I;have I:=J;clear J
 generalize w.heap.size+1=gx1 at *
 refine wp_seq ?_
 have hd1:¬ (4<((kxn:Int))):=ok
 have hd2:¬ (4<((kxd:Int))):=ok
 have hd3:12<((km:Int)):=ok
 have lx0:=kc0_ I
 refine qC7 fun K O T Y=>?_
 iterate 17 refine tk ?_
 iterate 4 refine sk ?_
 refine tk ?_
 refine nlS Y I fun vw1 J=>?_
 clear Y T I lx0
 go_wp2
 refine kO O ?_;clear O K
 have I:=J;clear J
 clear hd1 hd2 hd3
 refine wp_cond_true (by rfl) ?_
 have HB:=HPb I
 refine ks2_ fun K O T Y=>?_
 refine ck Tryz.call27 (fun w' hw=>qa9 _ (lh_ (HT.out.gr (Gr.trans HB.out hw)))) ?_
 refine tk ?_
 refine nlS Y I fun vw2 J=>?_
 clear Y T I HB
 go_wp2
 refine kO O ?_;clear O K
 have I:=J;clear J
 refine wp_ret ?_
 try simp only [Exit.then,Exit.inBlock]
 exact bodyPost_ret (v:=.bool true) (by simp [results,Tryz.results6,go_sem]) rfl ⟨rfl,I.out.1⟩
theorem qN5 (bbxn:Bool) (vxn:Value) (kxn:Nat) (fxn:Nat→Nat) (mxn:Nat) (ixn:Int) (vxd:Value) (kxd:Nat) (fxd:Nat→Nat) (mxd:Nat) (a:Rat) (vm:Value) (km:Nat) (fm:Nat→Nat) (n:Nat) (bbz:Bool) (vz:Value) (kz:Nat) (fz:Nat→Nat) (mz:Nat) (b:Int)  (w:World) (HWxn:Hid (Wa w vxn kxn fxn)) (HFxn:Hid (∀ i,i<kxn→fxn i<4294967296)) (HVxn:Hid (vl fxn kxn=mxn)) (HAxn:Hid ((if bbxn then -((mxn:Nat):Int) else ((mxn:Nat):Int))=ixn)) (HWxd:Hid (Wa w vxd kxd fxd)) (HFxd:Hid (∀ i,i<kxd→fxd i<4294967296)) (HVxd:Hid (vl fxd kxd=mxd)) (HQx:Hid (mkRat ixn (mxd+1)=a)) (HWm:Hid (Wa w vm km fm)) (HFm:Hid (∀ i,i<km→fm i<4294967296)) (HVm:Hid (vl fm km=n)) (HWz:Hid (Wa w vz kz fz)) (HFz:Hid (∀ i,i<kz→fz i<4294967296)) (HVz:Hid (vl fz kz=mz)) (HAz:Hid ((if bbz then -((mz:Nat):Int) else ((mz:Nat):Int))=b)) (hkxn:kxn≤4) (hkxd:kxd≤4) (hkm:km≤12) (hkz:12<kz) (HT:Hid (Tab w)) :
  Calls Tryz.prog 6 #[.agg #[.bool bbxn,vxn,vxd],vm,.agg #[.bool bbz,vz]] w fun e w'=>e=.returned (.bool true)∧Below w.heap.size w w':=by
 obtain ⟨ao_xn,c_xn,rfl⟩:=HWxn.out.slice
 obtain ⟨ao_xd,c_xd,rfl⟩:=HWxd.out.slice
 obtain ⟨ao_m,c_m,rfl⟩:=HWm.out.slice
 obtain ⟨ao_z,c_z,rfl⟩:=HWz.out.slice
 go_enter Tryz.func6,Tryz.ntmps6
 have I:=lh_ (hp0 w)
 refine kS fun K O=>?_
 refine wp_region_lit ?_
 go_wp2
 refine kF_ O (((I.out).aL (w.heap.size)).aL (w.heap.size+1)) fun Wx0 J=>?_;clear O K
 clear I;have I:=J;clear J
 generalize w.heap.size+1=gx1 at *
 refine wp_seq ?_
 have hd1:¬ (4<((kxn:Int))):=ok
 have hd2:¬ (4<((kxd:Int))):=ok
 have hd3:¬ (12<((km:Int))):=ok
 have hd4:12<((kz:Int)):=ok
 have lx0:=kc0_ I
 have lx1:=kc1_ I
 refine qC7 fun K O T Y=>?_
 iterate 22 refine tk ?_
 refine nlS Y I fun vw1 J=>?_
 clear Y T I lx0 lx1
 go_wp2
 refine kO O ?_;clear O K
 have I:=J;clear J
 clear hd1 hd2 hd3 hd4
 refine wp_cond_true (by rfl) ?_
 have HB:=HPb I
 refine ks2_ fun K O T Y=>?_
 refine ck Tryz.call27 (fun w' hw=>qa9 _ (lh_ (HT.out.gr (Gr.trans HB.out hw)))) ?_
 refine tk ?_
 refine nlS Y I fun vw2 J=>?_
 clear Y T I HB
 go_wp2
 refine kO O ?_;clear O K
 have I:=J;clear J
 refine wp_ret ?_
 try simp only [Exit.then,Exit.inBlock]
 exact bodyPost_ret (v:=.bool true) (by simp [results,Tryz.results6,go_sem]) rfl ⟨rfl,I.out.1⟩
theorem qA7 (bbxn:Bool) (vxn:Value) (kxn:Nat) (fxn:Nat→Nat) (vxd:Value) (kxd:Nat) (fxd:Nat→Nat) (vm:Value) (km:Nat) (fm:Nat→Nat) (bbz:Bool) (vz:Value) (kz:Nat) (fz:Nat→Nat) (w:World) (HWxn:Hid (Wa w vxn kxn fxn)) (HFxn:Hid (∀ i,i<kxn→fxn i<4294967296)) (HWxd:Hid (Wa w vxd kxd fxd)) (HFxd:Hid (∀ i,i<kxd→fxd i<4294967296)) (HWm:Hid (Wa w vm km fm)) (HFm:Hid (∀ i,i<km→fm i<4294967296)) (HWz:Hid (Wa w vz kz fz)) (HFz:Hid (∀ i,i<kz→fz i<4294967296))  (HT:Hid (Tab w)) :
  Calls Tryz.prog 6 #[.agg #[.bool bbxn,vxn,vxd],vm,.agg #[.bool bbz,vz]] w fun e w'=>e=.returned (.bool true)∧Below w.heap.size w w':=by
 obtain ⟨ixn,HAxn⟩:∃ z,Hid ((if bbxn then -((vl fxn kxn:Nat):Int) else ((vl fxn kxn:Nat):Int))=z):=⟨_,lh_ rfl⟩
 obtain ⟨a,HQx⟩:∃ z,Hid (mkRat ixn (vl fxd kxd+1)=z):=⟨_,lh_ rfl⟩
 obtain ⟨n,HVm⟩:∃ z,Hid (vl fm km=z):=⟨_,lh_ rfl⟩
 obtain ⟨b,HAz⟩:∃ z,Hid ((if bbz then -((vl fz kz:Nat):Int) else ((vl fz kz:Nat):Int))=z):=⟨_,lh_ rfl⟩
 by_cases hkxn:kxn≤4
 ·skip
  by_cases hkxd:kxd≤4
  ·skip
   by_cases hkm:km≤12
   ·skip
    by_cases hkz:kz≤12
    ·skip
     obtain ⟨z1,b1,hb1⟩:=qO9 b n
     obtain ⟨z2,b2,hb2⟩:=qO9 (a.num*(egcd ((n:Nat):Int) ((a.den:Nat):Int)).2.2) n
     exact qN6 bbxn vxn kxn fxn _ ixn vxd kxd fxd _ a vm km fm n bbz vz kz fz _ b z1 z2 b1 b2 _ _ _ _ _ w HWxn HFxn (lh_ rfl) HAxn HWxd HFxd (lh_ rfl) HQx HWm HFm HVm HWz HFz (lh_ rfl) HAz hkxn hkxd hkm hkz (lh_ hb1) (lh_ rfl) (lh_ rfl) (lh_ rfl) (lh_ rfl) (lh_ hb2) (lh_ rfl) HT
    ·exact qN5 bbxn vxn kxn fxn _ ixn vxd kxd fxd _ a vm km fm n bbz vz kz fz _ b  w HWxn HFxn (lh_ rfl) HAxn HWxd HFxd (lh_ rfl) HQx HWm HFm HVm HWz HFz (lh_ rfl) HAz  hkxn hkxd hkm om HT
   ·exact qN4 bbxn vxn kxn fxn _ ixn vxd kxd fxd _ a vm km fm n bbz vz kz fz _ b  w HWxn HFxn (lh_ rfl) HAxn HWxd HFxd (lh_ rfl) HQx HWm HFm HVm HWz HFz (lh_ rfl) HAz  hkxn hkxd om HT
  ·exact qN3 bbxn vxn kxn fxn _ ixn vxd kxd fxd _ a vm km fm n bbz vz kz fz _ b  w HWxn HFxn (lh_ rfl) HAxn HWxd HFxd (lh_ rfl) HQx HWm HFm HVm HWz HFz (lh_ rfl) HAz  hkxn om HT
 ·exact qN2 bbxn vxn kxn fxn _ ixn vxd kxd fxd _ a vm km fm n bbz vz kz fz _ b  w HWxn HFxn (lh_ rfl) HAxn HWxd HFxd (lh_ rfl) HQx HWm HFm HVm HWz HFz (lh_ rfl) HAz   om HT
end Go.Proofs.YtobojnodohjiaaaGreatDoor
