
/- gussetref03: Abs, Floor. -/
import Derived.Test.YtobojnodohjiaaaGreatDoorPT
import Derived.Test.YtobojnodohjiaaaGreatDoorZrA
import Derived.Test.YtobojnodohjiaaaGreatDoorPV
import Derived.Test.YtobojnodohjiaaaGreatDoorHp
set_option maxRecDepth 100000
set_option maxHeartbeats 16000000
set_option linter.unusedVariables false
set_option linter.unusedSimpArgs false
namespace Go.Proofs.YtobojnodohjiaaaGreatDoor
open Go.RowKit
attribute [local go_sem ↓] Go.wp_at_zero Go.wp_at_succ
attribute [local go_sem ↓] eq_nat eq_nat_zero eq_int
theorem xg6 (a z:Rat) (va1 va2:Value) (w:World) (HZ:Hid (-a=z)) (h0:a<0) (bx21:Rn w va1 a.num.natAbs) (bx22:Rn w va2 (a.den - 1)) :
  Calls Tryz.prog 138 #[.agg #[.bool (decide (a.num<0)),va1,va2]] w fun e w'=>(∃ r1 r2:Value,e=.returned (.agg #[.bool (decide (z.num<0)),r1,r2])∧Rn w' r1 z.num.natAbs∧Rn w' r2 (z.den - 1))∧Gr w w':=by
 obtain ⟨ao_va1,n_va1,c_va1,rfl⟩:=Rn.sl bx21
 obtain ⟨ao_va2,n_va2,c_va2,rfl⟩:=Rn.sl bx22
 go_enter Tryz.func138,Tryz.ntmps138
 have I:=lh_ (hp0 w)
 replace I:=lh_ ((I.out.ar bx21).ar bx22)
 simp only [lF,lG] at I
 clear bx21 bx22
 refine kSl fun K O=>?_;go_wp2
 refine kF_ O (al2_ I) fun Wx0 J=>?_;clear O K
 clear I;have I:=J;clear J
 generalize w.heap.size+1=gx24 at *
 refine wp_seq ?_
 have lx23:=kc2_ I
 refine ks3_ fun K O T Y=>?_
 refine tk ?_
 refine ck Tryz.call88 (fun w' hw=>qd5 a (-1) _ _ _ (by have e9:(a)<(0:Rat):=(ok);exact qk0 e9) (I.out.r 0 rfl hw) (I.out.r 1 rfl hw)) ?_
 refine tk ?_
 refine nz Y I O ?_;clear Y T I lx23 O K;intro vw1 I
 refine wp_cond_true (by rfl) ?_
 have HZ1:Hid (-(a)=z):=lh_ (HZ.out)
 have lx23:=kc2_ I
 refine kS fun K O=>?_
 have HG0:Hid (Gr vw1 vw1):=lh_ (Gr.refl _)
 refine qY4 fun T Y=>?_
 refine tk ?_
 refine ce2 Tryz.call136 HG0 (fun w' hw=>qk6 a z _ _ _ HZ1.out (I.out.r 0 rfl (HG0.out.trans hw)) (I.out.r 1 rfl (HG0.out.trans hw))) ?_;clear HG0;intro vv26 HG0 _ ao1 nn1 cc1 ao2 nn2 cc2 RN26 RN27
 clear lx23;have lx23:=fun w' (h:Gr _ w')=>kc2_ I w' (HG0.out.trans h)
 refine wpPlan_nil (Y.out _ _ ?_)
 intro vw2 hg
 simp only [puts,Act.put,lA,lB,lC,lD,lE,↓reduceIte,Nat.reduceEqDiff]
 have J:=lh_ (((I.out.gr (HG0.out.trans hg)).ar (RN26.out.gr hg)).ar (RN27.out.gr hg))
 simp only [zq1_,zq2_,zq3_,zq4_,lF,lG] at J
 clear Y T I hg HG0 RN26 RN27 lx23
 have lx24:=kc3_ J;have fx24:=kf3_ J
 have r0:=Gr.refl vw2
 go_wp2
 refine kO O ?_;clear O K
 clear r0 lx24 fx24
 refine fH (((J.out).put2 3 0 rfl).put 3 2 _ rfl) fun Wx2 I=>?_
 clear J
 refine wp_ret ?_
 try simp only [Exit.then,Exit.inBlock]
 have lx24:=kc3_ I
 have r0:=Gr.refl Wx2
 exact bR ⟨⟨(.slice ao1 nn1 cc1),(.slice ao2 nn2 cc2),rfl,(I.out.rn 4 rfl),(I.out.rn 5 rfl)⟩,I.out.1⟩ (by simp [results,Tryz.results138,go_sem,lx24 _ r0])
theorem xg8 (a:Rat) (t:Int) (va1 va2:Value) (w:World) (HT_:Hid (sgQ a=t)) (h0:¬ t<0) (bx21:Rn w va1 a.num.natAbs) (bx22:Rn w va2 (a.den - 1)) :
  Calls Tryz.prog 138 #[.agg #[.bool (decide (a.num<0)),va1,va2]] w fun e w'=>(∃ r1 r2:Value,e=.returned (.agg #[.bool (decide (a.num<0)),r1,r2])∧Rn w' r1 a.num.natAbs∧Rn w' r2 (a.den - 1))∧Gr w w':=by
 obtain ⟨ao_va1,n_va1,c_va1,rfl⟩:=Rn.sl bx21
 obtain ⟨ao_va2,n_va2,c_va2,rfl⟩:=Rn.sl bx22
 go_enter Tryz.func138,Tryz.ntmps138
 have I:=lh_ (hp0 w)
 replace I:=lh_ ((I.out.ar bx21).ar bx22)
 simp only [lF,lG] at I
 clear bx21 bx22
 refine kSl fun K O=>?_;go_wp2
 refine kF_ O (al2_ I) fun Wx0 J=>?_;clear O K
 clear I;have I:=J;clear J
 generalize w.heap.size+1=gx24 at *
 refine wp_seq ?_
 have hd1:¬ (t<0):=ok
 have lx23:=kc2_ I
 refine ks3_ fun K O T Y=>?_
 refine tk ?_
 refine ck Tryz.call88 (fun w' hw=>qd5 a t _ _ _ (HT_.out) (I.out.r 0 rfl hw) (I.out.r 1 rfl hw)) ?_
 refine tk ?_
 refine nz Y I O ?_;clear Y T I lx23 O K;intro vw1 I
 clear hd1
 refine wp_cond_false (by rfl) ?_
 refine wp_skip ?_
 show Code.wp _ _ _ _ _
 have lx23:=kc2_ I
 refine ks1_ fun K O T Y=>?_
 refine tk ?_
 refine nlS Y I fun vw2 J=>?_
 clear Y T I lx23
 have lx24:=kc3_ J;have fx24:=kf3_ J
 have r0:=Gr.refl vw2
 go_wp2
 refine kO O ?_;clear O K
 clear r0 lx24 fx24
 refine fH ((((J.out).put2 3 0 rfl).put 3 2 _ rfl).er 2) fun Wx3 I=>?_
 clear J
 refine wp_ret ?_
 try simp only [Exit.then,Exit.inBlock]
 have lx24:=kc2_ I
 have r0:=Gr.refl Wx3
 exact bR ⟨⟨(.slice ao_va1 n_va1 c_va1),(.slice ao_va2 n_va2 c_va2),rfl,(I.out.rn 0 rfl),(I.out.rn 1 rfl)⟩,I.out.1⟩ (by simp [results,Tryz.results138,go_sem,lx24 _ r0])
theorem xx5 {a:Rat} (h:¬ a<0):¬ sgQ a<0:=by
 unfold sgQ;rw [if_neg h];split <;> decide
theorem qs3 (a z:Rat) (va1 va2:Value) (w:World) (hz:qabs a=z) (h1:Rn w va1 a.num.natAbs) (h2:Rn w va2 (a.den - 1)) :
  Calls Tryz.prog 138 #[.agg #[.bool (decide (a.num<0)),va1,va2]] w fun e w'=>(∃ r1 r2:Value,e=.returned (.agg #[.bool (decide (z.num<0)),r1,r2])∧Rn w' r1 z.num.natAbs∧Rn w' r2 (z.den - 1))∧Gr w w':=by
 subst hz
 unfold qabs
 by_cases h:a<0
 ·rw [if_pos h]
  exact xg6 a _ va1 va2 w (lh_ rfl) h h1 h2
 rw [if_neg h]
 exact xg8 a _ va1 va2 w (lh_ rfl) (xx5 h) h1 h2
theorem qy0 (q:Rat):rz (qabs q)=rz q:=by unfold qabs;split;rw [qu1];rfl
theorem qt0 (q:Rat):tw (Int.natAbs (q.floor))≤rz q+1:=by
 rw [Rat.floor_def]
 exact Nat.le_trans (qZ4 _ _) (by have:=qe1 q;omega)
theorem qk5 (a:Rat) (z:Int) (va1 va2:Value) (w:World) (HZ:Hid (a.floor=z)) (hs:rz a≤10000000) (bx21:Rn w va1 a.num.natAbs) (bx22:Rn w va2 (a.den - 1)) :
  Calls Tryz.prog 144 #[.agg #[.bool (decide (a.num<0)),va1,va2]] w fun e w'=>(∃ r1:Value,e=.returned (.agg #[.bool (z<0),r1])∧Rn w' r1 z.natAbs)∧Gr w w':=by
 have hn_q:tw a.num.natAbs≤10000000:=Nat.le_trans (qe1 a) hs
 have hp_q:=a.den_pos
 obtain ⟨ao_va1,n_va1,c_va1,rfl⟩:=Rn.sl bx21
 obtain ⟨ao_va2,n_va2,c_va2,rfl⟩:=Rn.sl bx22
 go_enter Tryz.func144,Tryz.ntmps144
 have I:=lh_ (hp0 w)
 replace I:=lh_ ((I.out.ar bx21).ar bx22)
 simp only [lF,lG] at I
 clear bx21 bx22
 refine kSl fun K O=>?_;go_wp2
 refine kF_ O (al2_ I) fun Wx0 J=>?_;clear O K
 clear I;have I:=J;clear J
 generalize w.heap.size+1=gx24 at *
 obtain ⟨u1,HZ1⟩:=ex_ ((a.den:Int))
 have su1:tw u1.natAbs≤10000000:=by rw [← HZ1.out];rw [Int.natAbs_natCast];exact Nat.le_trans (qc8 _) om
 have HZ2:Hid ((a.num) / u1=z):=lh_ (by rw [← HZ.out,Rat.floor_def];simp only [← HZ1.out])
 have su2:tw z.natAbs≤10000001:=by have e:=HZ2.out;first|omega|(rw [← e];have:=qZ4 (a.num) u1;omega)
 obtain ⟨u3,HZ3⟩:=ex_ ((a.num) % u1)
 have su3:tw u3.natAbs≤10000000:=by rw [← HZ3.out];have:=xr8 (a.num) u1 (by simp only [← HZ1.out];omega);omega
 have lx23:=kc2_ I
 refine kS fun K O=>?_
 have HG0:Hid (Gr Wx0 Wx0):=lh_ (Gr.refl _)
 refine wp_region_plan 10 [8,9] [7] (fun i=>if i=8 then 3 else 4) (fun i=>if i=8 then .cells #[.bool false,.slice none 0 0] 45 else .cells #[.bool false,.slice none 0 0] 45) [(true,0),(true,1),(true,2),(false,3),(false,4),(true,5),(true,6),(true,7)] (by kernel_rfl) (by kernel_rfl) zb7_ qr6 (fun _ _ _ _ _ h=>h) (fun T Y=>?_)
 refine tk3_ ?_
 refine ce1 Tryz.call215 HG0 (fun w' hw=>qx7 a u1 _ _ _ HZ1.out om (I.out.r 0 rfl (HG0.out.trans hw)) (I.out.r 1 rfl (HG0.out.trans hw))) ?_;clear HG0;intro vv26 HG0 _ ao1 nn1 cc1 RN26
 clear lx23;have lx23:=fun w' (h:Gr _ w')=>kc2_ I w' (HG0.out.trans h)
 refine ce2 Tryz.call218 HG0 (fun w' hw=>xF0 (a.num) u1 z u3 _ _ _ HZ2.out HZ3.out (by simp only [← HZ3.out,← HZ1.out];omega) om om (I.out.r 0 rfl (HG0.out.trans hw)) (RN26.out.gr hw)) ?_;clear HG0;intro vv27 HG0 HGS ao2 nn2 cc2 ao3 nn3 cc3 RN27 RN28
 replace RN26:=lh_ (RN26.out.gr HGS.out)
 clear HGS
 clear lx23;have lx23:=fun w' (h:Gr _ w')=>kc2_ I w' (HG0.out.trans h)
 refine tk3_ ?_
 refine wpPlan_nil (Y.out _ _ ?_)
 intro G vw1 hg hf
 simp only [puts,Act.put,lA,lB,lC,lD,lE,↓reduceIte,Nat.reduceEqDiff]
 have J:=lh_ ((((I.out.fr (HG0.out.trans hg) hf (zs:=[(#[.bool false,.slice none 0 0],45),(#[.bool false,.slice none 0 0],45)]) rfl (by decide) (by decide)).ar (RN26.out.gr hg)).ar (RN27.out.gr hg)).ar (RN28.out.gr hg))
 simp only [zq1_,zq2_,zq3_,zq4_,lF,lG] at J
 clear Y T I hg hf HG0 RN26 RN27 RN28 lx23
 generalize G 8=gx29 at *
 generalize G 9=gx30 at *
 have lx29:=kc4_ J;have fx29:=kf4_ J
 have lx30:=kc5_ J;have fx30:=kf5_ J
 have r0:=Gr.refl vw1
 obtain ⟨d29_30,d30_29⟩:=J.out.ne 4 5 rfl rfl (by decide)
 go_wp2
 refine kO O ?_;clear O K
 clear r0 lx29 fx29 lx30 fx30 d29_30 d30_29
 refine fH (((((((((J.out).put2 4 0 rfl).put2 5 0 rfl).er 8).er 6).er 5).er 2).er 1).er 0) fun Wx1 I=>?_
 clear J
 have lx29:=kc1_ I
 refine ks1_ fun K O T Y=>?_
 refine tk ?_
 refine nlS Y I fun vw2 J=>?_
 clear Y T I lx29
 have lx24:=kc0_ J;have fx24:=kf0_ J
 have r0:=Gr.refl vw2
 go_wp2
 refine kO O ?_;clear O K
 clear r0 lx24 fx24
 refine fH (((J.out).put2 0 0 rfl).er 1) fun Wx2 I=>?_
 clear J
 refine wp_ret ?_
 try simp only [Exit.then,Exit.inBlock]
 have lx24:=kc0_ I
 have r0:=Gr.refl Wx2
 exact bR ⟨⟨(.slice ao2 nn2 cc2),rfl,(I.out.rn 1 rfl)⟩,I.out.1⟩ (by simp [results,Tryz.results144,go_sem,lx24 _ r0])
end Go.Proofs.YtobojnodohjiaaaGreatDoor
