
/- ReconsJoins: no moduli; long arguments; all ways. -/
import Derived.Test.YtobojnodohjiaaaGreatDoorRecJ
set_option maxRecDepth 100000
set_option maxHeartbeats 16000000
set_option linter.unusedVariables false
set_option linter.unusedSimpArgs false
namespace Go.Proofs.YtobojnodohjiaaaGreatDoor
open Go.RowKit
attribute [local go_sem ↓] Go.wp_at_zero Go.wp_at_succ
attribute [local go_sem ↓] qb8 qa3 qc8 qd9 qb7
attribute [local go_sem] Instr.field asAgg
attribute [local go_sem ↓] qh7
theorem qR3 (d:Nat) (a:Int) (m:Nat) (w:World):(Op.equalIn (d+5) 71 (.agg #[.int .u64 0,.string ⟨#[]⟩,.bool false,.int .u64 (lo m),.string (bg m)]) (.agg #[.int .u64 (lo a.natAbs),.string (bg a.natAbs),.bool (a<0),.int .u64 (lo m),.string (bg m)])).run Tryz.prog w=.ok (decide ((0:Int)=a)) w:=by
 show (Op.equalIn (d+5) 71 (.agg #[.int .u64 (lo (Int.natAbs ((0:Int)))),.string (bg (Int.natAbs ((0:Int)))),.bool (decide (((0:Int))<0)),.int .u64 (lo m),.string (bg m)]) (.agg #[.int .u64 (lo a.natAbs),.string (bg a.natAbs),.bool (a<0),.int .u64 (lo m),.string (bg m)])).run Tryz.prog w=.ok (decide ((0:Int)=a)) w
 by_cases h:(0:Int)=a
 ·subst h;rw [qh7,decide_eq_true rfl]
 ·rw [decide_eq_false h];simp [go_sem,qc8,qb8,h];omega
attribute [local go_sem ↓] qR3
theorem xF7 (z:Nat) (w:World) (hz:1=z) :
  Calls Tryz.prog 24 #[.int .u64 1] w fun e w'=>e=.returned (Value.agg #[.int .u64 (lo z),.string (bg z)])∧Below w.heap.size w w':=hz ▸ nzof 1 w (by decide)
theorem qT1 (bbx:Bool) (vx:Value) (kx:Nat) (fx:Nat→Nat) (mx:Nat) (a:Int) (v:Value) (fw:Nat→Nat) (f:Nat→Int × Nat) (t R0:Int) (M0:Nat) (w:World) (HWx:Hid (Wa w vx kx fx)) (HFx:Hid (∀ i,i<kx→fx i<4294967296)) (HVx:Hid (vl fx kx=mx)) (HAx:Hid ((if bbx then -((mx:Nat):Int) else ((mx:Nat):Int))=a)) (hkx:kx≤8) (HWA:Hid (Wa w v 0 fw)) (HM0:Hid (1=M0)) (HRM:Hid (a % ((M0:Nat):Int)=R0)) (HR0:Hid ((0:Int)=R0)) (HCV:Hid (chv f 0 R0 M0 0)) (hwM:wl M0≤1) (hwR:wl R0.natAbs≤1) (HT:Hid (Tab w)) :
  Calls Tryz.prog 7 #[.agg #[.bool bbx,vx],v,.int .i64 t] w fun e w'=>e=.returned (.bool true)∧Below w.heap.size w w':=by
 obtain ⟨ao_x,c_x,rfl⟩:=HWx.out.slice
 have hm_x:wl mx≤8:=by rw [← HVx.out];have:=qb1.2 (qh4 HFx.out);omega
 have hb_x:wl a.natAbs≤8:=by rw [qB2 HAx.out];exact hm_x
 obtain ⟨ao,c,rfl⟩:=HWA.out.slice
 go_enter Tryz.func7,Tryz.ntmps7
 have I:=lh_ (hp0 w)
 refine kS fun K O=>?_
 refine wp_region_lit ?_
 go_wp2
 refine kF_ O ((I.out).aL (w.heap.size)) fun Wx0 J=>?_;clear O K
 clear I;have I:=J;clear J
 refine wp_seq ?_
 have hx8:¬ 8<(kx:Int):=by omega
 have hd1:¬ (6<(((0:Int):Int))):=ok
 have lx0:=kc0_ I
 refine ks9_ fun K O T Y=>?_
 iterate 9 refine tk ?_
 refine nlS Y I fun vw1 J=>?_
 clear Y T I lx0
 go_wp2
 refine kO O ?_;clear O K
 have I:=J;clear J
 clear hx8 hd1
 refine wp_cond_false (by rfl) ?_
 refine wp_skip ?_
 show Code.wp _ _ _ _ _
 have HB:=HPb I
 have lx0:=kc0_ I
 refine ks2_ fun K O T Y=>?_
 refine tk ?_
 refine ck Tryz.call32 (fun w' hw=>zlof bbx kx fx mx a ao_x c_x w' (lh_ (HWx.out.gr (Gr.trans HB.out hw))) HFx HVx HAx om om) ?_
 refine nlS Y I fun vw2 J=>?_
 clear Y T I lx0 HB
 go_wp2
 refine kF_ O (((J.out).aL (vw2.heap.size)).er 0) fun Wx3 I=>?_;clear O K
 clear J
 generalize vw2.heap.size=gx2 at *
 refine kS fun K O=>?_
 go_wp2
 refine kO O ?_;clear O K
 refine wp_seq ?_
 refine kS fun K O=>?_
 refine wp_region_lit ?_
 go_wp2
 refine kF_ O (I.out) fun Wx5 J=>?_;clear O K
 clear I;have I:=J;clear J
 refine wp_block ?_
 refine wp_loop_rounds 1 ?_
 rw [rounds_succ]
 refine wp_seq ?_
 have hd2:¬ (0<(((0:Int):Int))):=ok
 refine ks4_ fun K O T Y=>?_
 iterate 4 refine tk ?_
 refine nlS Y I fun vw3 J=>?_
 clear Y T I
 go_wp2
 refine kO O ?_;clear O K
 have I:=J;clear J
 clear hd2
 refine wp_cond_false (by rfl) ?_
 refine wp_exit ?_
 show Code.wp _ _ _ _ _
 refine kS fun K O=>?_
 refine wp_region_lit ?_
 go_wp2
 refine kF_ O (I.out) fun Wx10 J=>?_;clear O K
 clear I;have I:=J;clear J
 refine wp_seq ?_
 refine ks3_ fun K O T Y=>?_
 refine tk3_ ?_
 refine nlS Y I fun vw4 J=>?_
 clear Y T I
 go_wp2
 refine kO O ?_;clear O K
 have I:=J;clear J
 refine wp_cond_false (by rfl) ?_
 refine wp_skip ?_
 show Code.wp _ _ _ _ _
 refine kS fun K O=>?_
 go_wp2
 refine kO O ?_;clear O K
 refine kS fun K O=>?_
 go_wp2
 refine kO O ?_;clear O K
 have su1a:wl R0.natAbs≤20:=om
 have su1b:wl M0≤20:=om
 refine ks5_ fun K O T Y=>?_
 refine tk ?_
 refine ck Tryz.call29 (fun w' hw=>qe7 _ 0 f R0 M0 (0) _ HCV.out (rs0 _ _) om (fun i hi=>absurd hi (Nat.not_lt_zero _))) ?_
 refine tk3_ ?_
 refine nlS Y I fun vw5 J=>?_
 clear Y T I
 go_wp2
 refine kF_ O ((J.out).aL (vw5.heap.size)) fun Wx15 I=>?_;clear O K
 clear J
 generalize vw5.heap.size=gx3 at *
 have su2a:wl R0.natAbs≤20:=om
 have su2b:wl M0≤20:=om
 refine ks5_ fun K O T Y=>?_
 refine tk ?_
 refine ck Tryz.call29 (fun w' hw=>qe7 _ 0 f R0 M0 (0) _ HCV.out (rs0 _ _) om (fun i hi=>absurd hi (Nat.not_lt_zero _))) ?_
 refine tk3_ ?_
 refine nlS Y I fun vw6 J=>?_
 clear Y T I
 go_wp2
 refine kF_ O ((J.out).aL (vw6.heap.size)) fun Wx16 I=>?_;clear O K
 clear J
 generalize vw6.heap.size=gx4 at *
 refine ks2_ fun K O T Y=>?_
 refine ck Tryz.call24 (fun w' hw=>xF7 M0 _ HM0.out) ?_
 refine tk ?_
 refine nlS Y I fun vw7 J=>?_
 clear Y T I
 go_wp2
 refine kF_ O ((J.out).aL (vw7.heap.size)) fun Wx17 I=>?_;clear O K
 clear J
 generalize vw7.heap.size=gx5 at *
 refine wp_seq ?_
 refine kS fun K O=>?_
 refine wp_region_lit ?_
 go_wp2
 refine kF_ O (I.out) fun Wx18 J=>?_;clear O K
 clear I;have I:=J;clear J
 refine wp_block ?_
 refine wp_loop_rounds 1 ?_
 rw [rounds_succ]
 refine wp_seq ?_
 refine ks4_ fun K O T Y=>?_
 iterate 4 refine tk ?_
 refine nlS Y I fun vw8 J=>?_
 clear Y T I
 go_wp2
 refine kO O ?_;clear O K
 have I:=J;clear J
 refine wp_cond_false (by rfl) ?_
 refine wp_exit ?_
 show Code.wp _ _ _ _ _
 have HZ3:Hid ((if false then -((M0:Nat):Int) else ((M0:Nat):Int))=((M0:Nat):Int)):=lh_ (by rfl)
 have su3:wl (Int.natAbs (((M0:Nat):Int)))≤20:=by have e:=HZ3.out;first|omega|(rw [← e];split <;> simp <;> omega)
 have HZ4:Hid (a / (((M0:Nat):Int))=(a / ((M0:Nat):Int))):=lh_ (rfl)
 have su4:wl (Int.natAbs ((a / ((M0:Nat):Int))))≤9:=by have:=qi0 a (((M0:Nat):Int));omega
 have HZ5:Hid (a % (((M0:Nat):Int))=R0):=lh_ (HRM.out)
 have su5:wl R0.natAbs≤20:=by have e:=HZ5.out;first|omega|(rw [← e];have:=ql2 a (((M0:Nat):Int)) (by have e9:=HM0.out;omega);omega)
 have lx2:=kc0_ I
 have lx3:=kc1_ I
 refine kS fun K O=>?_
 refine qa1 11 [9,10] [7,8] (fun i=>if i=9 then 19 else 20) (fun i=>if i=9 then .cells #[.int .u64 0,.string ⟨#[]⟩,.bool false] 34 else .cells #[.int .u64 0,.string ⟨#[]⟩,.bool false] 34) [(true,0),(true,1),(true,2),(true,3),(true,4),(true,5),(true,6),(true,7),(true,8)] (by kernel_rfl) (by kernel_rfl) (by intro i hi;simp only [List.mem_cons,List.not_mem_nil,or_false] at hi;rcases hi with rfl|rfl <;> exact ⟨_,rfl,rfl,rfl,by simp,fun ρ w=>by kernel_rfl⟩) (by intro i hi;simp only [List.mem_cons,List.not_mem_nil,or_false] at hi;rcases hi with rfl|rfl <;> exact ⟨_,rfl,qa_⟩) (fun _ _ _ _ _ h=>h) (fun T Y=>?_)
 refine tk3_ ?_
 refine ck Tryz.call37 (fun w' hw=>qb2 false M0 (((M0:Nat):Int)) _ HZ3.out) ?_
 refine ck Tryz.call42 (fun w' hw=>qx_ a (((M0:Nat):Int)) ((a / ((M0:Nat):Int))) R0 _ HZ4.out HZ5.out (by have e9:=HM0.out;omega) om om) ?_
 iterate 4 refine tk ?_
 refine qa0 (Y.out _ _ ?_)
 intro G vw9 hg hf
 simp only [puts,Act.put,lA,lB,lC,lD,lE,↓reduceIte,Nat.reduceEqDiff]
 have J:=lh_ (I.out.fr hg hf (zs:=[(#[.int .u64 0,.string ⟨#[]⟩,.bool false],34),(#[.int .u64 0,.string ⟨#[]⟩,.bool false],34)]) rfl (by decide) (by decide))
 simp only [zq1_,zq2_,zq3_,zq4_,lF,lG] at J
 clear Y T I hg hf lx2 lx3
 generalize G 9=gx6 at *
 generalize G 10=gx7 at *
 have lx6:=kc4_ J;have fx6:=kf4_ J
 have lx7:=kc5_ J;have fx7:=kf5_ J
 have r0:=Gr.refl vw9
 obtain ⟨d6_7,d7_6⟩:=J.out.ne 4 5 rfl rfl (by decide)
 go_wp2
 refine kO O ?_;clear O K
 clear r0 lx6 fx6 lx7 fx7 d6_7 d7_6
 refine fH (((((((J.out).put2 4 0 rfl).put 4 2 _ rfl).put2 5 0 rfl).put 5 2 _ rfl).er 4).er 0) fun Wx22 I=>?_
 clear J
 refine wp_seq ?_
 have hz14:decide ((0:Int)=R0)=true:=decide_eq_true HR0.out
 have lx3:=kc0_ I
 have lx4:=kc1_ I
 have lx5:=kc2_ I
 have lx7:=kc3_ I
 refine xx2 fun K O T Y=>?_
 iterate 26 refine tk ?_
 refine nlS Y I fun vw10 J=>?_
 clear Y T I lx3 lx4 lx5 lx7
 go_wp2
 refine kF_ O ((((J.out).er 3).er 2).er 1) fun Wx23 I=>?_;clear O K
 clear J
 clear hz14
 refine wp_cond_false (by rfl) ?_
 refine wp_skip ?_
 show Code.wp _ _ _ _ _
 refine wp_seq ?_
 refine kS fun K O=>?_
 refine wp_region_lit ?_
 go_wp2
 refine kF_ O (I.out) fun Wx25 J=>?_;clear O K
 clear I;have I:=J;clear J
 refine wp_block ?_
 refine wp_loop_rounds 1 ?_
 rw [rounds_succ]
 refine wp_seq ?_
 refine ks4_ fun K O T Y=>?_
 iterate 4 refine tk ?_
 refine nlS Y I fun vw11 J=>?_
 clear Y T I
 go_wp2
 refine kO O ?_;clear O K
 have I:=J;clear J
 refine wp_cond_false (by rfl) ?_
 refine wp_exit ?_
 show Code.wp _ _ _ _ _
 have HB:=HPb I
 refine ks2_ fun K O T Y=>?_
 refine ck Tryz.call27 (fun w' hw=>qa9 _ (lh_ (HT.out.gr (Gr.trans HB.out hw)))) ?_
 refine tk ?_
 refine nlS Y I fun vw12 J=>?_
 clear Y T I HB
 go_wp2
 refine kF_ O ((J.out).er 0) fun Wx35 I=>?_;clear O K
 clear J
 refine wp_ret ?_
 try simp only [Exit.then,Exit.inBlock]
 exact bodyPost_ret (v:=.bool true) (by simp [results,Tryz.results7,go_sem]) rfl ⟨rfl,I.out.1⟩
theorem qK_ (bbx:Bool) (vx:Value) (kx:Nat) (fx:Nat→Nat) (mx:Nat) (a:Int) (v:Value) (n:Nat) (fw:Nat→Nat) (t:Int) (w:World) (HWx:Hid (Wa w vx kx fx)) (HFx:Hid (∀ i,i<kx→fx i<4294967296)) (HVx:Hid (vl fx kx=mx)) (HAx:Hid ((if bbx then -((mx:Nat):Int) else ((mx:Nat):Int))=a)) (hkx:8<kx) (HWA:Hid (Wa w v n fw)) (HT:Hid (Tab w)) :
  Calls Tryz.prog 7 #[.agg #[.bool bbx,vx],v,.int .i64 t] w fun e w'=>e=.returned (.bool true)∧Below w.heap.size w w':=by
 obtain ⟨ao_x,c_x,rfl⟩:=HWx.out.slice
 obtain ⟨ao,c,rfl⟩:=HWA.out.slice
 go_enter Tryz.func7,Tryz.ntmps7
 have I:=lh_ (hp0 w)
 refine kS fun K O=>?_
 refine wp_region_lit ?_
 go_wp2
 refine kF_ O ((I.out).aL (w.heap.size)) fun Wx0 J=>?_;clear O K
 clear I;have I:=J;clear J
 refine wp_seq ?_
 have hx8:8<(kx:Int):=by omega
 have lx0:=kc0_ I
 refine ks9_ fun K O T Y=>?_
 iterate 5 refine tk ?_
 iterate 3 refine sk ?_
 refine tk ?_
 refine nlS Y I fun vw1 J=>?_
 clear Y T I lx0
 go_wp2
 refine kO O ?_;clear O K
 have I:=J;clear J
 clear hx8
 refine wp_cond_true (by rfl) ?_
 have HB:=HPb I
 refine ks2_ fun K O T Y=>?_
 refine ck Tryz.call27 (fun w' hw=>qa9 _ (lh_ (HT.out.gr (Gr.trans HB.out hw)))) ?_
 refine tk ?_
 refine nlS Y I fun vw2 J=>?_
 clear Y T I HB
 go_wp2
 refine kO O ?_;clear O K
 have I:=J;clear J
 refine wp_ret ?_
 try simp only [Exit.then,Exit.inBlock]
 exact bodyPost_ret (v:=.bool true) (by simp [results,Tryz.results7,go_sem]) rfl ⟨rfl,I.out.1⟩
theorem qK9 (bbx:Bool) (vx:Value) (kx:Nat) (fx:Nat→Nat) (mx:Nat) (a:Int) (v:Value) (n:Nat) (fw:Nat→Nat) (t:Int) (w:World) (HWx:Hid (Wa w vx kx fx)) (HFx:Hid (∀ i,i<kx→fx i<4294967296)) (HVx:Hid (vl fx kx=mx)) (HAx:Hid ((if bbx then -((mx:Nat):Int) else ((mx:Nat):Int))=a)) (hkx:kx≤8) (hn:6<n) (HWA:Hid (Wa w v n fw)) (HT:Hid (Tab w)) :
  Calls Tryz.prog 7 #[.agg #[.bool bbx,vx],v,.int .i64 t] w fun e w'=>e=.returned (.bool true)∧Below w.heap.size w w':=by
 obtain ⟨ao_x,c_x,rfl⟩:=HWx.out.slice
 obtain ⟨ao,c,rfl⟩:=HWA.out.slice
 go_enter Tryz.func7,Tryz.ntmps7
 have I:=lh_ (hp0 w)
 refine kS fun K O=>?_
 refine wp_region_lit ?_
 go_wp2
 refine kF_ O ((I.out).aL (w.heap.size)) fun Wx0 J=>?_;clear O K
 clear I;have I:=J;clear J
 refine wp_seq ?_
 have hx8:¬ 8<(kx:Int):=by omega
 have hnx9:6<(n:Int):=by omega
 have lx0:=kc0_ I
 refine ks9_ fun K O T Y=>?_
 iterate 9 refine tk ?_
 refine nlS Y I fun vw1 J=>?_
 clear Y T I lx0
 go_wp2
 refine kO O ?_;clear O K
 have I:=J;clear J
 clear hx8 hnx9
 refine wp_cond_true (by rfl) ?_
 have HB:=HPb I
 refine ks2_ fun K O T Y=>?_
 refine ck Tryz.call27 (fun w' hw=>qa9 _ (lh_ (HT.out.gr (Gr.trans HB.out hw)))) ?_
 refine tk ?_
 refine nlS Y I fun vw2 J=>?_
 clear Y T I HB
 go_wp2
 refine kO O ?_;clear O K
 have I:=J;clear J
 refine wp_ret ?_
 try simp only [Exit.then,Exit.inBlock]
 exact bodyPost_ret (v:=.bool true) (by simp [results,Tryz.results7,go_sem]) rfl ⟨rfl,I.out.1⟩
theorem qz0 (bbx:Bool) (vx:Value) (kx:Nat) (fx:Nat→Nat) (v:Value) (n:Nat) (fw:Nat→Nat) (t:Int) (w:World) (HWx:Hid (Wa w vx kx fx)) (HFx:Hid (∀ i,i<kx→fx i<4294967296)) (HWA:Hid (Wa w v n fw)) (HFW:Hid (∀ i,i<n→fw i<4294967296)) (ht1:-9223372036854775808≤t) (ht2:t≤9223372036854775807) (HT:Hid (Tab w)) :
  Calls Tryz.prog 7 #[.agg #[.bool bbx,vx],v,.int .i64 t] w fun e w'=>e=.returned (.bool true)∧Below w.heap.size w w':=by
 obtain ⟨a,HAx⟩:∃ z,Hid ((if bbx then -((vl fx kx:Nat):Int) else ((vl fx kx:Nat):Int))=z):=⟨_,lh_ rfl⟩
 by_cases hk:kx≤8
 ·by_cases hn:n≤6
  ·rcases Nat.eq_zero_or_pos n with h0|h0
   ·subst h0
    exact qT1 bbx vx kx fx _ a v fw (jf a fw) t _ 1 w HWx HFx (lh_ rfl) HAx hk HWA (lh_ rfl) (lh_ rfl) (lh_ (Int.emod_one a).symm) (lh_ (by
     rw [show a % ((1:Nat):Int)=0 from Int.emod_one a]
     exact qg1 (fun i hi=>absurd hi (Nat.not_lt_zero _)) rfl)) (qa6 (by decide)) (by rw [show a % ((1:Nat):Int)=0 from Int.emod_one a];exact qa6 (by decide)) HT
   ·have hw:wl a.natAbs≤8:=by rw [qB2 HAx.out];have:=qb1.2 (qh4 HFx.out);omega
    exact qL0 bbx vx kx fx _ a v n fw _ t w HWx HFx (lh_ rfl) HAx hk HWA HFW h0 hn ht1 ht2 (lh_ rfl) (lh_ (qn3 a fw)) (lh_ (fun i hi=>xF0 hw (HFW.out i hi))) HT
  ·exact qK9 bbx vx kx fx _ a v n fw t w HWx HFx (lh_ rfl) HAx hk om HWA HT
 ·exact qK_ bbx vx kx fx _ a v n fw t w HWx HFx (lh_ rfl) HAx om HWA HT
end Go.Proofs.YtobojnodohjiaaaGreatDoor
