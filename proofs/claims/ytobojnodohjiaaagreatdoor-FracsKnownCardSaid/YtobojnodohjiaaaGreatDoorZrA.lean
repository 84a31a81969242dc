
/- gussetref02: Sub, Cmp, Div. -/
import Derived.Test.YtobojnodohjiaaaGreatDoorIntE
import Derived.Test.YtobojnodohjiaaaGreatDoorPT
import Derived.Test.YtobojnodohjiaaaGreatDoorHp
set_option maxRecDepth 100000
set_option maxHeartbeats 16000000
set_option linter.unusedVariables false
set_option linter.unusedSimpArgs false
namespace Go.Proofs.YtobojnodohjiaaaGreatDoor
open Go.RowKit
attribute [local go_sem ↓] Go.wp_at_zero Go.wp_at_succ
theorem qZ5 (a b:Int):tw (Int.natAbs (a - b))≤max (tw a.natAbs) (tw b.natAbs)+1:=by
 have:=qp_ a (-b)
 rw [Int.natAbs_neg] at this
 rw [Int.sub_eq_add_neg];exact this
theorem qZ4 (a b:Int):tw (a / b).natAbs≤tw a.natAbs+1:=by
 have h1:=qc7 (qR5 a b)
 have h2:=qJ8 a.natAbs 1
 have h3:tw 1≤1:=qe_.2 (by decide)
 by_cases h:a=0
 ·subst h;simp
 have h4:0<tw a.natAbs:=qo1 om
 omega
theorem xr8 (a b:Int) (h:b≠0):tw (a % b).natAbs≤tw b.natAbs:=qc7 (Nat.le_of_lt (qt7 a h).1)
theorem qi6 (a s:Int) (va:Value) (w:World) (hs:sgI a=s) (h:Rn w va a.natAbs) :
  CB 194 #[.agg #[.bool (decide (a<0)),va]] w (.int .i64 s):=qC0 a s va w hs h
theorem qK3 (a b z:Int) (va vb:Value) (w:World) (hz:a - b=z) (hs_a:tw (Int.natAbs a)≤100000000) (hs_b:tw (Int.natAbs b)≤100000000) (bx21:Rn w va a.natAbs) (bx22:Rn w vb b.natAbs) :
  Calls Tryz.prog 252 #[.agg #[.bool (a<0),va],.agg #[.bool (b<0),vb]] w fun e w'=>(∃ r1:Value,e=.returned (.agg #[.bool (z<0),r1])∧Rn w' r1 z.natAbs)∧Gr w w':=by
 have HZ:=lh_ hz
 clear hz
 obtain ⟨ao_va,n_va,c_va,rfl⟩:=Rn.sl bx21
 obtain ⟨ao_vb,n_vb,c_vb,rfl⟩:=Rn.sl bx22
 go_enter Tryz.func252,Tryz.ntmps252
 have I:=lh_ (hp0 w)
 replace I:=lh_ ((I.out.ar bx21).ar bx22)
 simp only [lF,lG] at I
 clear bx21 bx22
 refine kSl fun K O=>?_;go_wp2
 refine kF_ O (al3_ I) fun Wx0 J=>?_;clear O K
 clear I;have I:=J;clear J
 generalize w.heap.size+1+1=gx25 at *
 generalize w.heap.size+1=gx24 at *
 obtain ⟨u1,HZ1⟩:=ex_ (-(b))
 have su1:tw u1.natAbs≤100000000:=by rw [← HZ1.out];rw [Int.natAbs_neg];omega
 have HZ2:Hid (a+(u1)=z):=lh_ (by rw [← HZ.out,← HZ1.out];omega)
 have su2:tw z.natAbs≤100000001:=by have e:=HZ2.out;first|omega|(rw [← e];have:=qp_ a u1;omega)
 have lx23:=kc2_ I
 have lx24:=kc3_ I
 refine kS fun K O=>?_
 have HG0:Hid (Gr Wx0 Wx0):=lh_ (Gr.refl _)
 refine xp4 fun T Y=>?_
 refine tk2_ ?_
 refine ce1 Tryz.call216 HG0 (fun w' hw=>qK1 b u1 _ _ HZ1.out (I.out.r 1 rfl (HG0.out.trans hw))) ?_;clear HG0;intro vv27 HG0 _ ao1 nn1 cc1 RN27
 clear lx23;have lx23:=fun w' (h:Gr _ w')=>kc2_ I w' (HG0.out.trans h)
 clear lx24;have lx24:=fun w' (h:Gr _ w')=>kc3_ I w' (HG0.out.trans h)
 refine ce1 Tryz.call210 HG0 (fun w' hw=>qo6 a u1 z _ _ _ HZ2.out om om (I.out.r 0 rfl (HG0.out.trans hw)) (RN27.out.gr hw)) ?_;clear HG0;intro vv28 HG0 HGS ao2 nn2 cc2 RN28
 replace RN27:=lh_ (RN27.out.gr HGS.out)
 clear HGS
 clear lx23;have lx23:=fun w' (h:Gr _ w')=>kc2_ I w' (HG0.out.trans h)
 clear lx24;have lx24:=fun w' (h:Gr _ w')=>kc3_ I w' (HG0.out.trans h)
 refine wpPlan_nil (Y.out _ _ ?_)
 intro G vw1 hg hf
 simp only [puts,Act.put,lA,lB,lC,lD,lE,↓reduceIte,Nat.reduceEqDiff]
 have J:=lh_ (((I.out.gr (HG0.out.trans hg)).ar (RN27.out.gr hg)).ar (RN28.out.gr hg))
 simp only [zq1_,zq2_,zq3_,zq4_,lF,lG] at J
 clear Y T I hg hf HG0 RN27 RN28 lx23 lx24
 have lx25:=kc4_ J;have fx25:=kf4_ J
 have r0:=Gr.refl vw1
 go_wp2
 refine kO O ?_;clear O K
 clear r0 lx25 fx25
 refine fH (((((((J.out).put2 4 0 rfl).er 5).er 3).er 2).er 1).er 0) fun Wx1 I=>?_
 clear J
 refine wp_ret ?_
 try simp only [Exit.then,Exit.inBlock]
 have lx25:=kc0_ I
 have r0:=Gr.refl Wx1
 exact bR ⟨⟨(.slice ao2 nn2 cc2),rfl,(I.out.rn 1 rfl)⟩,I.out.1⟩ (by simp [results,Tryz.results252,go_sem,lx25 _ r0])
theorem xt7 (a b q r t:Int) (va vb:Value) (w:World) (HQ:Hid (a / b=q)) (HR:Hid (a % b=r)) (HBS:Hid (0<b)) (H0:Hid (0≤a)) (HT_:Hid (sgI r=t)) (ht:¬ t<0) (HRS:Hid (0≤r)) (hs_a:tw (Int.natAbs a)≤100000000) (hs_b:tw (Int.natAbs b)≤100000000) (bx21:Rn w va a.natAbs) (bx22:Rn w vb b.natAbs) :
  Calls Tryz.prog 218 #[.agg #[.bool (a<0),va],.agg #[.bool (b<0),vb]] w fun e w'=>(∃ r1 r2:Value,e=.returned (.tuple #[(.agg #[.bool (q<0),r1]),(.agg #[.bool (r<0),r2])])∧Rn w' r1 q.natAbs∧Rn w' r2 r.natAbs)∧Gr w w':=by
 obtain ⟨ao_va,n_va,c_va,rfl⟩:=Rn.sl bx21
 obtain ⟨ao_vb,n_vb,c_vb,rfl⟩:=Rn.sl bx22
 go_enter Tryz.func218,Tryz.ntmps218
 have I:=lh_ (hp0 w)
 replace I:=lh_ ((I.out.ar bx21).ar bx22)
 simp only [lF,lG] at I
 clear bx21 bx22
 refine kSl fun K O=>?_;go_wp2
 refine kF_ O ((al3_ I).aL (w.heap.size+1+1+1)) fun Wx0 J=>?_;clear O K
 clear I;have I:=J;clear J
 generalize w.heap.size+1+1+1=gx26 at *
 generalize w.heap.size+1+1=gx25 at *
 generalize w.heap.size+1=gx24 at *
 obtain ⟨u1,HZ1⟩:=ex_ (a.natAbs / b.natAbs)
 have su1:tw u1≤100000000:=by rw [← HZ1.out];have:=qo0 a.natAbs b.natAbs;omega
 obtain ⟨u2,HZ2⟩:=ex_ (a.natAbs % b.natAbs)
 have su2:tw u2≤100000000:=by rw [← HZ2.out];have:=qr3 a.natAbs b.natAbs;omega
 have lx23:=kc2_ I
 have lx24:=kc3_ I
 refine kS fun K O=>?_
 have HG0:Hid (Gr Wx0 Wx0):=lh_ (Gr.refl _)
 refine qf_ fun T Y=>?_
 iterate 4 refine tk ?_
 refine ce2 Tryz.call176 HG0 (fun w' hw=>qB_ _ _ a.natAbs b.natAbs u1 u2 _ HZ1.out HZ2.out (I.out.r 0 rfl (HG0.out.trans hw)) (I.out.r 1 rfl (HG0.out.trans hw)) zb6_ om om) ?_;clear HG0;intro vv28 HG0 _ ao1 nn1 cc1 ao2 nn2 cc2 RN28 RN29
 clear lx23;have lx23:=fun w' (h:Gr _ w')=>kc2_ I w' (HG0.out.trans h)
 clear lx24;have lx24:=fun w' (h:Gr _ w')=>kc3_ I w' (HG0.out.trans h)
 iterate 5 refine tk ?_
 refine nzR Y O (fun w2 hg=>((I.out.gr (HG0.out.trans hg)).ar (RN28.out.gr hg)).ar (RN29.out.gr hg)) ?_;clear Y T I HG0 RN28 RN29 lx23 lx24 O K;intro vw1 I
 have hd1:decide (a<0)=false:=decide_eq_false zb6_
 have hd2:decide (b<0)=false:=decide_eq_false zb6_
 have hd3:decide (a<0)=false:=decide_eq_false zb6_
 have HZ3:Hid ((if false then -((u1:Nat):Int) else ((u1:Nat):Int))=q):=lh_ xA3
 have su3:tw q.natAbs≤100000000:=by have e:=HZ3.out;first|omega|(rw [← e];split <;> simp <;> omega)
 have HZ4:Hid ((if false then -((u2:Nat):Int) else ((u2:Nat):Int))=r):=lh_ xj3
 have su4:tw r.natAbs≤100000000:=by have e:=HZ4.out;first|omega|(rw [← e];split <;> simp <;> omega)
 have lx23:=kc2_ I
 have lx24:=kc3_ I
 refine kS fun K O=>?_
 have HG0:Hid (Gr vw1 vw1):=lh_ (Gr.refl _)
 refine wp_region_plan 13 [11,12] [] (fun i=>if i=11 then 8 else 9) (fun i=>if i=11 then .cells #[.bool false,.slice none 0 0] 45 else .cells #[.bool false,.slice none 0 0] 45) [(true,0),(true,1),(true,2),(true,3),(true,4),(true,5),(true,7),(true,8),(true,9),(false,6),(false,10)] (by kernel_rfl) (by kernel_rfl) zb7_ (fun i hi=>by cases hi) (fun _ _ _ _ _ h=>h) (fun T Y=>?_)
 iterate 9 refine tk ?_
 refine ce1 Tryz.call196 HG0 (fun w' hw=>qa8 false u1 q _ _ HZ3.out (I.out.r 6 rfl (HG0.out.trans hw))) ?_;clear HG0;intro vv30 HG0 _ ao3 nn3 cc3 RN30
 clear lx23;have lx23:=fun w' (h:Gr _ w')=>kc2_ I w' (HG0.out.trans h)
 clear lx24;have lx24:=fun w' (h:Gr _ w')=>kc3_ I w' (HG0.out.trans h)
 refine ce1 Tryz.call196 HG0 (fun w' hw=>qa8 false u2 r _ _ HZ4.out (I.out.r 7 rfl (HG0.out.trans hw))) ?_;clear HG0;intro vv31 HG0 HGS ao4 nn4 cc4 RN31
 replace RN30:=lh_ (RN30.out.gr HGS.out)
 clear HGS
 clear lx23;have lx23:=fun w' (h:Gr _ w')=>kc2_ I w' (HG0.out.trans h)
 clear lx24;have lx24:=fun w' (h:Gr _ w')=>kc3_ I w' (HG0.out.trans h)
 refine wpPlan_nil (Y.out _ _ ?_)
 intro G vw2 hg hf
 simp only [puts,Act.put,lA,lB,lC,lD,lE,↓reduceIte,Nat.reduceEqDiff]
 have J:=lh_ (((I.out.fr (HG0.out.trans hg) hf (zs:=[(#[.bool false,.slice none 0 0],45),(#[.bool false,.slice none 0 0],45)]) rfl (by decide) (by decide)).ar (RN30.out.gr hg)).ar (RN31.out.gr hg))
 simp only [zq1_,zq2_,zq3_,zq4_,lF,lG] at J
 clear Y T I hg hf HG0 RN30 RN31 lx23 lx24
 generalize G 11=gx32 at *
 generalize G 12=gx33 at *
 have lx32:=kc8_ J;have fx32:=kf8_ J
 have lx33:=kc9_ J;have fx33:=kf9_ J
 have r0:=Gr.refl vw2
 obtain ⟨d32_33,d33_32⟩:=J.out.ne 8 9 rfl rfl (by decide)
 go_wp2
 refine kO O ?_;clear O K
 clear r0 lx32 fx32 lx33 fx33 d32_33 d33_32
 refine fH (((((((J.out).put2 8 0 rfl).put2 9 0 rfl).er 7).er 6).er 2).er 0) fun Wx2 I=>?_
 clear J
 clear hd1 hd2 hd3
 refine wp_seq ?_
 have hd4:¬ (t<0):=by have h0:=H0.out;have hb:=HBS.out;have hr:=HRS.out;first|exact ok|(simp only [← HZ2.out,← HZ1.out] <;> first|exact ok)
 have lx24:=kc1_ I
 have lx33:=kc5_ I
 refine qd4 fun K O T Y=>?_
 refine tk ?_
 refine ck Tryz.call194 (fun w' hw=>qi6 r t _ _ (HT_.out) (I.out.r 7 rfl hw)) ?_
 refine tk2_ ?_
 iterate 3 refine sk ?_
 refine tk ?_
 refine nz Y I O ?_;clear Y T I lx24 lx33 O K;intro vw3 I
 clear hd4
 refine wp_cond_false (by rfl) ?_
 refine wp_skip ?_
 show Code.wp _ _ _ _ _
 refine wp_seq ?_
 have hd5:¬ (t<0):=by have h0:=H0.out;have hb:=HBS.out;have hr:=HRS.out;first|exact ok|(simp only [← HZ2.out,← HZ1.out] <;> first|exact ok)
 have lx33:=kc5_ I
 refine ks3_ fun K O T Y=>?_
 refine tk ?_
 refine ck Tryz.call194 (fun w' hw=>qi6 r t _ _ (HT_.out) (I.out.r 7 rfl hw)) ?_
 refine tk ?_
 refine nz Y I O ?_;clear Y T I lx33 O K;intro vw4 I
 clear hd5
 refine wp_cond_false (by rfl) ?_
 refine wp_skip ?_
 show Code.wp _ _ _ _ _
 have lx25:=kc2_ I;have fx25:=kf2_ I
 have lx26:=kc3_ I;have fx26:=kf3_ I
 have lx32:=kc4_ I;have fx32:=kf4_ I
 have lx33:=kc5_ I;have fx33:=kf5_ I
 have r0:=Gr.refl vw4
 obtain ⟨d25_26,d26_25⟩:=I.out.ne 2 3 rfl rfl (by decide)
 obtain ⟨d25_32,d32_25⟩:=I.out.ne 2 4 rfl rfl (by decide)
 obtain ⟨d25_33,d33_25⟩:=I.out.ne 2 5 rfl rfl (by decide)
 obtain ⟨d26_32,d32_26⟩:=I.out.ne 3 4 rfl rfl (by decide)
 obtain ⟨d26_33,d33_26⟩:=I.out.ne 3 5 rfl rfl (by decide)
 obtain ⟨d32_33,d33_32⟩:=I.out.ne 4 5 rfl rfl (by decide)
 refine kS fun K O=>?_
 go_region
 go_wp2
 refine kO O ?_;clear O K
 clear r0 lx25 fx25 lx26 fx26 lx32 fx32 lx33 fx33 d25_26 d26_25 d25_32 d32_25 d25_33 d33_25 d26_32 d32_26 d26_33 d33_26 d32_33 d33_32
 refine fH ((((((((I.out).put2 2 0 rfl).put2 3 0 rfl).er 5).er 4).er 1).er 0).gr ((Below.refl _ _).drew)) fun Wx7 J=>?_
 clear I;have I:=J;clear J
 refine wp_ret ?_
 try simp only [Exit.then,Exit.inBlock]
 have lx25:=kc0_ I
 have lx26:=kc1_ I
 have r0:=Gr.refl Wx7
 exact bR ⟨⟨(.slice ao3 nn3 cc3),(.slice ao4 nn4 cc4),rfl,(I.out.rn 2 rfl),(I.out.rn 3 rfl)⟩,I.out.1⟩ qP2
theorem xt6 (a b q r t:Int) (va vb:Value) (w:World) (HQ:Hid (a / b=q)) (HR:Hid (a % b=r)) (HBS:Hid (b<0)) (H0:Hid (0≤a)) (HT_:Hid (sgI r=t)) (ht:¬ t<0) (HRS:Hid (0≤r)) (hs_a:tw (Int.natAbs a)≤100000000) (hs_b:tw (Int.natAbs b)≤100000000) (bx21:Rn w va a.natAbs) (bx22:Rn w vb b.natAbs) :
  Calls Tryz.prog 218 #[.agg #[.bool (a<0),va],.agg #[.bool (b<0),vb]] w fun e w'=>(∃ r1 r2:Value,e=.returned (.tuple #[(.agg #[.bool (q<0),r1]),(.agg #[.bool (r<0),r2])])∧Rn w' r1 q.natAbs∧Rn w' r2 r.natAbs)∧Gr w w':=by
 obtain ⟨ao_va,n_va,c_va,rfl⟩:=Rn.sl bx21
 obtain ⟨ao_vb,n_vb,c_vb,rfl⟩:=Rn.sl bx22
 go_enter Tryz.func218,Tryz.ntmps218
 have I:=lh_ (hp0 w)
 replace I:=lh_ ((I.out.ar bx21).ar bx22)
 simp only [lF,lG] at I
 clear bx21 bx22
 refine kSl fun K O=>?_;go_wp2
 refine kF_ O ((al3_ I).aL (w.heap.size+1+1+1)) fun Wx0 J=>?_;clear O K
 clear I;have I:=J;clear J
 generalize w.heap.size+1+1+1=gx26 at *
 generalize w.heap.size+1+1=gx25 at *
 generalize w.heap.size+1=gx24 at *
 obtain ⟨u1,HZ1⟩:=ex_ (a.natAbs / b.natAbs)
 have su1:tw u1≤100000000:=by rw [← HZ1.out];have:=qo0 a.natAbs b.natAbs;omega
 obtain ⟨u2,HZ2⟩:=ex_ (a.natAbs % b.natAbs)
 have su2:tw u2≤100000000:=by rw [← HZ2.out];have:=qr3 a.natAbs b.natAbs;omega
 have lx23:=kc2_ I
 have lx24:=kc3_ I
 refine kS fun K O=>?_
 have HG0:Hid (Gr Wx0 Wx0):=lh_ (Gr.refl _)
 refine qf_ fun T Y=>?_
 iterate 4 refine tk ?_
 refine ce2 Tryz.call176 HG0 (fun w' hw=>qB_ _ _ a.natAbs b.natAbs u1 u2 _ HZ1.out HZ2.out (I.out.r 0 rfl (HG0.out.trans hw)) (I.out.r 1 rfl (HG0.out.trans hw)) zb6_ om om) ?_;clear HG0;intro vv28 HG0 _ ao1 nn1 cc1 ao2 nn2 cc2 RN28 RN29
 clear lx23;have lx23:=fun w' (h:Gr _ w')=>kc2_ I w' (HG0.out.trans h)
 clear lx24;have lx24:=fun w' (h:Gr _ w')=>kc3_ I w' (HG0.out.trans h)
 iterate 5 refine tk ?_
 refine nzR Y O (fun w2 hg=>((I.out.gr (HG0.out.trans hg)).ar (RN28.out.gr hg)).ar (RN29.out.gr hg)) ?_;clear Y T I HG0 RN28 RN29 lx23 lx24 O K;intro vw1 I
 have hd1:decide (a<0)=false:=decide_eq_false zb6_
 have hd2:decide (b<0)=true:=decide_eq_true zb6_
 have hd3:decide (a<0)=false:=decide_eq_false zb6_
 have HZ3:Hid ((if true then -((u1:Nat):Int) else ((u1:Nat):Int))=q):=lh_ xA4
 have su3:tw q.natAbs≤100000000:=by have e:=HZ3.out;first|omega|(rw [← e];split <;> simp <;> omega)
 have HZ4:Hid ((if false then -((u2:Nat):Int) else ((u2:Nat):Int))=r):=lh_ xj3
 have su4:tw r.natAbs≤100000000:=by have e:=HZ4.out;first|omega|(rw [← e];split <;> simp <;> omega)
 have lx23:=kc2_ I
 have lx24:=kc3_ I
 refine kS fun K O=>?_
 have HG0:Hid (Gr vw1 vw1):=lh_ (Gr.refl _)
 refine wp_region_plan 13 [11,12] [] (fun i=>if i=11 then 8 else 9) (fun i=>if i=11 then .cells #[.bool false,.slice none 0 0] 45 else .cells #[.bool false,.slice none 0 0] 45) [(true,0),(true,1),(true,2),(true,3),(true,4),(true,5),(true,7),(true,8),(true,9),(false,6),(false,10)] (by kernel_rfl) (by kernel_rfl) zb7_ (fun i hi=>by cases hi) (fun _ _ _ _ _ h=>h) (fun T Y=>?_)
 iterate 9 refine tk ?_
 refine ce1 Tryz.call196 HG0 (fun w' hw=>qa8 true u1 q _ _ HZ3.out (I.out.r 6 rfl (HG0.out.trans hw))) ?_;clear HG0;intro vv30 HG0 _ ao3 nn3 cc3 RN30
 clear lx23;have lx23:=fun w' (h:Gr _ w')=>kc2_ I w' (HG0.out.trans h)
 clear lx24;have lx24:=fun w' (h:Gr _ w')=>kc3_ I w' (HG0.out.trans h)
 refine ce1 Tryz.call196 HG0 (fun w' hw=>qa8 false u2 r _ _ HZ4.out (I.out.r 7 rfl (HG0.out.trans hw))) ?_;clear HG0;intro vv31 HG0 HGS ao4 nn4 cc4 RN31
 replace RN30:=lh_ (RN30.out.gr HGS.out)
 clear HGS
 clear lx23;have lx23:=fun w' (h:Gr _ w')=>kc2_ I w' (HG0.out.trans h)
 clear lx24;have lx24:=fun w' (h:Gr _ w')=>kc3_ I w' (HG0.out.trans h)
 refine wpPlan_nil (Y.out _ _ ?_)
 intro G vw2 hg hf
 simp only [puts,Act.put,lA,lB,lC,lD,lE,↓reduceIte,Nat.reduceEqDiff]
 have J:=lh_ (((I.out.fr (HG0.out.trans hg) hf (zs:=[(#[.bool false,.slice none 0 0],45),(#[.bool false,.slice none 0 0],45)]) rfl (by decide) (by decide)).ar (RN30.out.gr hg)).ar (RN31.out.gr hg))
 simp only [zq1_,zq2_,zq3_,zq4_,lF,lG] at J
 clear Y T I hg hf HG0 RN30 RN31 lx23 lx24
 generalize G 11=gx32 at *
 generalize G 12=gx33 at *
 have lx32:=kc8_ J;have fx32:=kf8_ J
 have lx33:=kc9_ J;have fx33:=kf9_ J
 have r0:=Gr.refl vw2
 obtain ⟨d32_33,d33_32⟩:=J.out.ne 8 9 rfl rfl (by decide)
 go_wp2
 refine kO O ?_;clear O K
 clear r0 lx32 fx32 lx33 fx33 d32_33 d33_32
 refine fH (((((((J.out).put2 8 0 rfl).put2 9 0 rfl).er 7).er 6).er 2).er 0) fun Wx2 I=>?_
 clear J
 clear hd1 hd2 hd3
 refine wp_seq ?_
 have hd4:¬ (t<0):=by have h0:=H0.out;have hb:=HBS.out;have hr:=HRS.out;first|exact ok|(simp only [← HZ2.out,← HZ1.out] <;> first|exact ok)
 have lx24:=kc1_ I
 have lx33:=kc5_ I
 refine qd4 fun K O T Y=>?_
 refine tk ?_
 refine ck Tryz.call194 (fun w' hw=>qi6 r t _ _ (HT_.out) (I.out.r 7 rfl hw)) ?_
 refine tk2_ ?_
 iterate 3 refine sk ?_
 refine tk ?_
 refine nz Y I O ?_;clear Y T I lx24 lx33 O K;intro vw3 I
 clear hd4
 refine wp_cond_false (by rfl) ?_
 refine wp_skip ?_
 show Code.wp _ _ _ _ _
 refine wp_seq ?_
 have hd5:¬ (t<0):=by have h0:=H0.out;have hb:=HBS.out;have hr:=HRS.out;first|exact ok|(simp only [← HZ2.out,← HZ1.out] <;> first|exact ok)
 have lx33:=kc5_ I
 refine ks3_ fun K O T Y=>?_
 refine tk ?_
 refine ck Tryz.call194 (fun w' hw=>qi6 r t _ _ (HT_.out) (I.out.r 7 rfl hw)) ?_
 refine tk ?_
 refine nz Y I O ?_;clear Y T I lx33 O K;intro vw4 I
 clear hd5
 refine wp_cond_false (by rfl) ?_
 refine wp_skip ?_
 show Code.wp _ _ _ _ _
 have lx25:=kc2_ I;have fx25:=kf2_ I
 have lx26:=kc3_ I;have fx26:=kf3_ I
 have lx32:=kc4_ I;have fx32:=kf4_ I
 have lx33:=kc5_ I;have fx33:=kf5_ I
 have r0:=Gr.refl vw4
 obtain ⟨d25_26,d26_25⟩:=I.out.ne 2 3 rfl rfl (by decide)
 obtain ⟨d25_32,d32_25⟩:=I.out.ne 2 4 rfl rfl (by decide)
 obtain ⟨d25_33,d33_25⟩:=I.out.ne 2 5 rfl rfl (by decide)
 obtain ⟨d26_32,d32_26⟩:=I.out.ne 3 4 rfl rfl (by decide)
 obtain ⟨d26_33,d33_26⟩:=I.out.ne 3 5 rfl rfl (by decide)
 obtain ⟨d32_33,d33_32⟩:=I.out.ne 4 5 rfl rfl (by decide)
 refine kS fun K O=>?_
 go_region
 go_wp2
 refine kO O ?_;clear O K
 clear r0 lx25 fx25 lx26 fx26 lx32 fx32 lx33 fx33 d25_26 d26_25 d25_32 d32_25 d25_33 d33_25 d26_32 d32_26 d26_33 d33_26 d32_33 d33_32
 refine fH ((((((((I.out).put2 2 0 rfl).put2 3 0 rfl).er 5).er 4).er 1).er 0).gr ((Below.refl _ _).drew)) fun Wx7 J=>?_
 clear I;have I:=J;clear J
 refine wp_ret ?_
 try simp only [Exit.then,Exit.inBlock]
 have lx25:=kc0_ I
 have lx26:=kc1_ I
 have r0:=Gr.refl Wx7
 exact bR ⟨⟨(.slice ao3 nn3 cc3),(.slice ao4 nn4 cc4),rfl,(I.out.rn 2 rfl),(I.out.rn 3 rfl)⟩,I.out.1⟩ qP2
theorem xt9 (a b q r t:Int) (va vb:Value) (w:World) (HQ:Hid (a / b=q)) (HR:Hid (a % b=r)) (HBS:Hid (0<b)) (H0:Hid (a<0)) (HM:Hid (a.natAbs % b.natAbs=0)) (HT_:Hid (sgI r=t)) (ht:¬ t<0) (HRS:Hid (0≤r)) (hs_a:tw (Int.natAbs a)≤100000000) (hs_b:tw (Int.natAbs b)≤100000000) (bx21:Rn w va a.natAbs) (bx22:Rn w vb b.natAbs) :
  Calls Tryz.prog 218 #[.agg #[.bool (a<0),va],.agg #[.bool (b<0),vb]] w fun e w'=>(∃ r1 r2:Value,e=.returned (.tuple #[(.agg #[.bool (q<0),r1]),(.agg #[.bool (r<0),r2])])∧Rn w' r1 q.natAbs∧Rn w' r2 r.natAbs)∧Gr w w':=by
 obtain ⟨ao_va,n_va,c_va,rfl⟩:=Rn.sl bx21
 obtain ⟨ao_vb,n_vb,c_vb,rfl⟩:=Rn.sl bx22
 go_enter Tryz.func218,Tryz.ntmps218
 have I:=lh_ (hp0 w)
 replace I:=lh_ ((I.out.ar bx21).ar bx22)
 simp only [lF,lG] at I
 clear bx21 bx22
 refine kSl fun K O=>?_;go_wp2
 refine kF_ O ((al3_ I).aL (w.heap.size+1+1+1)) fun Wx0 J=>?_;clear O K
 clear I;have I:=J;clear J
 generalize w.heap.size+1+1+1=gx26 at *
 generalize w.heap.size+1+1=gx25 at *
 generalize w.heap.size+1=gx24 at *
 obtain ⟨u1,HZ1⟩:=ex_ (a.natAbs / b.natAbs)
 have su1:tw u1≤100000000:=by rw [← HZ1.out];have:=qo0 a.natAbs b.natAbs;omega
 have HZ2:Hid (a.natAbs % b.natAbs=0):=lh_ (HM.out)
 have su2:tw (0)≤100000000:=by have e:=HZ2.out;first|omega|(rw [← e];have:=qr3 a.natAbs b.natAbs;omega)|exact qe_.2 (by decide +kernel)
 have lx23:=kc2_ I
 have lx24:=kc3_ I
 refine kS fun K O=>?_
 have HG0:Hid (Gr Wx0 Wx0):=lh_ (Gr.refl _)
 refine qf_ fun T Y=>?_
 iterate 4 refine tk ?_
 refine ce2 Tryz.call176 HG0 (fun w' hw=>qB_ _ _ a.natAbs b.natAbs u1 (0) _ HZ1.out HZ2.out (I.out.r 0 rfl (HG0.out.trans hw)) (I.out.r 1 rfl (HG0.out.trans hw)) zb8_ om om) ?_;clear HG0;intro vv28 HG0 _ ao1 nn1 cc1 ao2 nn2 cc2 RN28 RN29
 clear lx23;have lx23:=fun w' (h:Gr _ w')=>kc2_ I w' (HG0.out.trans h)
 clear lx24;have lx24:=fun w' (h:Gr _ w')=>kc3_ I w' (HG0.out.trans h)
 iterate 5 refine tk ?_
 refine nzR Y O (fun w2 hg=>((I.out.gr (HG0.out.trans hg)).ar (RN28.out.gr hg)).ar (RN29.out.gr hg)) ?_;clear Y T I HG0 RN28 RN29 lx23 lx24 O K;intro vw1 I
 have hd1:decide (a<0)=true:=decide_eq_true zb8_
 have hd2:decide (b<0)=false:=decide_eq_false zb8_
 have hd3:decide (a<0)=true:=decide_eq_true zb8_
 have HZ3:Hid ((if true then -((u1:Nat):Int) else ((u1:Nat):Int))=q):=lh_ xA5
 have su3:tw q.natAbs≤100000000:=by have e:=HZ3.out;first|omega|(rw [← e];split <;> simp <;> omega)
 have HZ4:Hid ((if true then -((0:Nat):Int) else ((0:Nat):Int))=r):=lh_ xj1
 have su4:tw r.natAbs≤100000000:=by have e:=HZ4.out;first|omega|(rw [← e];split <;> simp <;> omega)
 have lx23:=kc2_ I
 have lx24:=kc3_ I
 refine kS fun K O=>?_
 have HG0:Hid (Gr vw1 vw1):=lh_ (Gr.refl _)
 refine wp_region_plan 13 [11,12] [] (fun i=>if i=11 then 8 else 9) (fun i=>if i=11 then .cells #[.bool false,.slice none 0 0] 45 else .cells #[.bool false,.slice none 0 0] 45) [(true,0),(true,1),(true,2),(true,3),(true,4),(true,5),(true,7),(true,8),(true,9),(false,6),(false,10)] (by kernel_rfl) (by kernel_rfl) zb7_ (fun i hi=>by cases hi) (fun _ _ _ _ _ h=>h) (fun T Y=>?_)
 iterate 9 refine tk ?_
 refine ce1 Tryz.call196 HG0 (fun w' hw=>qa8 true u1 q _ _ HZ3.out (I.out.r 6 rfl (HG0.out.trans hw))) ?_;clear HG0;intro vv30 HG0 _ ao3 nn3 cc3 RN30
 clear lx23;have lx23:=fun w' (h:Gr _ w')=>kc2_ I w' (HG0.out.trans h)
 clear lx24;have lx24:=fun w' (h:Gr _ w')=>kc3_ I w' (HG0.out.trans h)
 refine ce1 Tryz.call196 HG0 (fun w' hw=>qa8 true (0) r _ _ HZ4.out (I.out.r 7 rfl (HG0.out.trans hw))) ?_;clear HG0;intro vv31 HG0 HGS ao4 nn4 cc4 RN31
 replace RN30:=lh_ (RN30.out.gr HGS.out)
 clear HGS
 clear lx23;have lx23:=fun w' (h:Gr _ w')=>kc2_ I w' (HG0.out.trans h)
 clear lx24;have lx24:=fun w' (h:Gr _ w')=>kc3_ I w' (HG0.out.trans h)
 refine wpPlan_nil (Y.out _ _ ?_)
 intro G vw2 hg hf
 simp only [puts,Act.put,lA,lB,lC,lD,lE,↓reduceIte,Nat.reduceEqDiff]
 have J:=lh_ (((I.out.fr (HG0.out.trans hg) hf (zs:=[(#[.bool false,.slice none 0 0],45),(#[.bool false,.slice none 0 0],45)]) rfl (by decide) (by decide)).ar (RN30.out.gr hg)).ar (RN31.out.gr hg))
 simp only [zq1_,zq2_,zq3_,zq4_,lF,lG] at J
 clear Y T I hg hf HG0 RN30 RN31 lx23 lx24
 generalize G 11=gx32 at *
 generalize G 12=gx33 at *
 have lx32:=kc8_ J;have fx32:=kf8_ J
 have lx33:=kc9_ J;have fx33:=kf9_ J
 have r0:=Gr.refl vw2
 obtain ⟨d32_33,d33_32⟩:=J.out.ne 8 9 rfl rfl (by decide)
 go_wp2
 refine kO O ?_;clear O K
 clear r0 lx32 fx32 lx33 fx33 d32_33 d33_32
 refine fH (((((((J.out).put2 8 0 rfl).put2 9 0 rfl).er 7).er 6).er 2).er 0) fun Wx2 I=>?_
 clear J
 clear hd1 hd2 hd3
 refine wp_seq ?_
 have hd4:¬ (t<0):=by have h0:=H0.out;have hb:=HBS.out;have hr:=HRS.out;first|exact ok|(simp only [← HZ1.out] <;> first|exact ok)
 have lx24:=kc1_ I
 have lx33:=kc5_ I
 refine qd4 fun K O T Y=>?_
 refine tk ?_
 refine ck Tryz.call194 (fun w' hw=>qi6 r t _ _ (HT_.out) (I.out.r 7 rfl hw)) ?_
 refine tk2_ ?_
 iterate 3 refine sk ?_
 refine tk ?_
 refine nz Y I O ?_;clear Y T I lx24 lx33 O K;intro vw3 I
 clear hd4
 refine wp_cond_false (by rfl) ?_
 refine wp_skip ?_
 show Code.wp _ _ _ _ _
 refine wp_seq ?_
 have hd5:¬ (t<0):=by have h0:=H0.out;have hb:=HBS.out;have hr:=HRS.out;first|exact ok|(simp only [← HZ1.out] <;> first|exact ok)
 have lx33:=kc5_ I
 refine ks3_ fun K O T Y=>?_
 refine tk ?_
 refine ck Tryz.call194 (fun w' hw=>qi6 r t _ _ (HT_.out) (I.out.r 7 rfl hw)) ?_
 refine tk ?_
 refine nz Y I O ?_;clear Y T I lx33 O K;intro vw4 I
 clear hd5
 refine wp_cond_false (by rfl) ?_
 refine wp_skip ?_
 show Code.wp _ _ _ _ _
 have lx25:=kc2_ I;have fx25:=kf2_ I
 have lx26:=kc3_ I;have fx26:=kf3_ I
 have lx32:=kc4_ I;have fx32:=kf4_ I
 have lx33:=kc5_ I;have fx33:=kf5_ I
 have r0:=Gr.refl vw4
 obtain ⟨d25_26,d26_25⟩:=I.out.ne 2 3 rfl rfl (by decide)
 obtain ⟨d25_32,d32_25⟩:=I.out.ne 2 4 rfl rfl (by decide)
 obtain ⟨d25_33,d33_25⟩:=I.out.ne 2 5 rfl rfl (by decide)
 obtain ⟨d26_32,d32_26⟩:=I.out.ne 3 4 rfl rfl (by decide)
 obtain ⟨d26_33,d33_26⟩:=I.out.ne 3 5 rfl rfl (by decide)
 obtain ⟨d32_33,d33_32⟩:=I.out.ne 4 5 rfl rfl (by decide)
 refine kS fun K O=>?_
 go_region
 go_wp2
 refine kO O ?_;clear O K
 clear r0 lx25 fx25 lx26 fx26 lx32 fx32 lx33 fx33 d25_26 d26_25 d25_32 d32_25 d25_33 d33_25 d26_32 d32_26 d26_33 d33_26 d32_33 d33_32
 refine fH ((((((((I.out).put2 2 0 rfl).put2 3 0 rfl).er 5).er 4).er 1).er 0).gr ((Below.refl _ _).drew)) fun Wx7 J=>?_
 clear I;have I:=J;clear J
 refine wp_ret ?_
 try simp only [Exit.then,Exit.inBlock]
 have lx25:=kc0_ I
 have lx26:=kc1_ I
 have r0:=Gr.refl Wx7
 exact bR ⟨⟨(.slice ao3 nn3 cc3),(.slice ao4 nn4 cc4),rfl,(I.out.rn 2 rfl),(I.out.rn 3 rfl)⟩,I.out.1⟩ qP2
theorem xt8 (a b q r t:Int) (va vb:Value) (w:World) (HQ:Hid (a / b=q)) (HR:Hid (a % b=r)) (HBS:Hid (b<0)) (H0:Hid (a<0)) (HM:Hid (a.natAbs % b.natAbs=0)) (HT_:Hid (sgI r=t)) (ht:¬ t<0) (HRS:Hid (0≤r)) (hs_a:tw (Int.natAbs a)≤100000000) (hs_b:tw (Int.natAbs b)≤100000000) (bx21:Rn w va a.natAbs) (bx22:Rn w vb b.natAbs) :
  Calls Tryz.prog 218 #[.agg #[.bool (a<0),va],.agg #[.bool (b<0),vb]] w fun e w'=>(∃ r1 r2:Value,e=.returned (.tuple #[(.agg #[.bool (q<0),r1]),(.agg #[.bool (r<0),r2])])∧Rn w' r1 q.natAbs∧Rn w' r2 r.natAbs)∧Gr w w':=by
 obtain ⟨ao_va,n_va,c_va,rfl⟩:=Rn.sl bx21
 obtain ⟨ao_vb,n_vb,c_vb,rfl⟩:=Rn.sl bx22
 go_enter Tryz.func218,Tryz.ntmps218
 have I:=lh_ (hp0 w)
 replace I:=lh_ ((I.out.ar bx21).ar bx22)
 simp only [lF,lG] at I
 clear bx21 bx22
 refine kSl fun K O=>?_;go_wp2
 refine kF_ O ((al3_ I).aL (w.heap.size+1+1+1)) fun Wx0 J=>?_;clear O K
 clear I;have I:=J;clear J
 generalize w.heap.size+1+1+1=gx26 at *
 generalize w.heap.size+1+1=gx25 at *
 generalize w.heap.size+1=gx24 at *
 obtain ⟨u1,HZ1⟩:=ex_ (a.natAbs / b.natAbs)
 have su1:tw u1≤100000000:=by rw [← HZ1.out];have:=qo0 a.natAbs b.natAbs;omega
 have HZ2:Hid (a.natAbs % b.natAbs=0):=lh_ (HM.out)
 have su2:tw (0)≤100000000:=by have e:=HZ2.out;first|omega|(rw [← e];have:=qr3 a.natAbs b.natAbs;omega)|exact qe_.2 (by decide +kernel)
 have lx23:=kc2_ I
 have lx24:=kc3_ I
 refine kS fun K O=>?_
 have HG0:Hid (Gr Wx0 Wx0):=lh_ (Gr.refl _)
 refine qf_ fun T Y=>?_
 iterate 4 refine tk ?_
 refine ce2 Tryz.call176 HG0 (fun w' hw=>qB_ _ _ a.natAbs b.natAbs u1 (0) _ HZ1.out HZ2.out (I.out.r 0 rfl (HG0.out.trans hw)) (I.out.r 1 rfl (HG0.out.trans hw)) zb8_ om om) ?_;clear HG0;intro vv28 HG0 _ ao1 nn1 cc1 ao2 nn2 cc2 RN28 RN29
 clear lx23;have lx23:=fun w' (h:Gr _ w')=>kc2_ I w' (HG0.out.trans h)
 clear lx24;have lx24:=fun w' (h:Gr _ w')=>kc3_ I w' (HG0.out.trans h)
 iterate 5 refine tk ?_
 refine nzR Y O (fun w2 hg=>((I.out.gr (HG0.out.trans hg)).ar (RN28.out.gr hg)).ar (RN29.out.gr hg)) ?_;clear Y T I HG0 RN28 RN29 lx23 lx24 O K;intro vw1 I
 have hd1:decide (a<0)=true:=decide_eq_true zb8_
 have hd2:decide (b<0)=true:=decide_eq_true zb8_
 have hd3:decide (a<0)=true:=decide_eq_true zb8_
 have HZ3:Hid ((if false then -((u1:Nat):Int) else ((u1:Nat):Int))=q):=lh_ xA6
 have su3:tw q.natAbs≤100000000:=by have e:=HZ3.out;first|omega|(rw [← e];split <;> simp <;> omega)
 have HZ4:Hid ((if true then -((0:Nat):Int) else ((0:Nat):Int))=r):=lh_ xj1
 have su4:tw r.natAbs≤100000000:=by have e:=HZ4.out;first|omega|(rw [← e];split <;> simp <;> omega)
 have lx23:=kc2_ I
 have lx24:=kc3_ I
 refine kS fun K O=>?_
 have HG0:Hid (Gr vw1 vw1):=lh_ (Gr.refl _)
 refine wp_region_plan 13 [11,12] [] (fun i=>if i=11 then 8 else 9) (fun i=>if i=11 then .cells #[.bool false,.slice none 0 0] 45 else .cells #[.bool false,.slice none 0 0] 45) [(true,0),(true,1),(true,2),(true,3),(true,4),(true,5),(true,7),(true,8),(true,9),(false,6),(false,10)] (by kernel_rfl) (by kernel_rfl) zb7_ (fun i hi=>by cases hi) (fun _ _ _ _ _ h=>h) (fun T Y=>?_)
 iterate 9 refine tk ?_
 refine ce1 Tryz.call196 HG0 (fun w' hw=>qa8 false u1 q _ _ HZ3.out (I.out.r 6 rfl (HG0.out.trans hw))) ?_;clear HG0;intro vv30 HG0 _ ao3 nn3 cc3 RN30
 clear lx23;have lx23:=fun w' (h:Gr _ w')=>kc2_ I w' (HG0.out.trans h)
 clear lx24;have lx24:=fun w' (h:Gr _ w')=>kc3_ I w' (HG0.out.trans h)
 refine ce1 Tryz.call196 HG0 (fun w' hw=>qa8 true (0) r _ _ HZ4.out (I.out.r 7 rfl (HG0.out.trans hw))) ?_;clear HG0;intro vv31 HG0 HGS ao4 nn4 cc4 RN31
 replace RN30:=lh_ (RN30.out.gr HGS.out)
 clear HGS
 clear lx23;have lx23:=fun w' (h:Gr _ w')=>kc2_ I w' (HG0.out.trans h)
 clear lx24;have lx24:=fun w' (h:Gr _ w')=>kc3_ I w' (HG0.out.trans h)
 refine wpPlan_nil (Y.out _ _ ?_)
 intro G vw2 hg hf
 simp only [puts,Act.put,lA,lB,lC,lD,lE,↓reduceIte,Nat.reduceEqDiff]
 have J:=lh_ (((I.out.fr (HG0.out.trans hg) hf (zs:=[(#[.bool false,.slice none 0 0],45),(#[.bool false,.slice none 0 0],45)]) rfl (by decide) (by decide)).ar (RN30.out.gr hg)).ar (RN31.out.gr hg))
 simp only [zq1_,zq2_,zq3_,zq4_,lF,lG] at J
 clear Y T I hg hf HG0 RN30 RN31 lx23 lx24
 generalize G 11=gx32 at *
 generalize G 12=gx33 at *
 have lx32:=kc8_ J;have fx32:=kf8_ J
 have lx33:=kc9_ J;have fx33:=kf9_ J
 have r0:=Gr.refl vw2
 obtain ⟨d32_33,d33_32⟩:=J.out.ne 8 9 rfl rfl (by decide)
 go_wp2
 refine kO O ?_;clear O K
 clear r0 lx32 fx32 lx33 fx33 d32_33 d33_32
 refine fH (((((((J.out).put2 8 0 rfl).put2 9 0 rfl).er 7).er 6).er 2).er 0) fun Wx2 I=>?_
 clear J
 clear hd1 hd2 hd3
 refine wp_seq ?_
 have hd4:¬ (t<0):=by have h0:=H0.out;have hb:=HBS.out;have hr:=HRS.out;first|exact ok|(simp only [← HZ1.out] <;> first|exact ok)
 have lx24:=kc1_ I
 have lx33:=kc5_ I
 refine qd4 fun K O T Y=>?_
 refine tk ?_
 refine ck Tryz.call194 (fun w' hw=>qi6 r t _ _ (HT_.out) (I.out.r 7 rfl hw)) ?_
 refine tk2_ ?_
 iterate 3 refine sk ?_
 refine tk ?_
 refine nz Y I O ?_;clear Y T I lx24 lx33 O K;intro vw3 I
 clear hd4
 refine wp_cond_false (by rfl) ?_
 refine wp_skip ?_
 show Code.wp _ _ _ _ _
 refine wp_seq ?_
 have hd5:¬ (t<0):=by have h0:=H0.out;have hb:=HBS.out;have hr:=HRS.out;first|exact ok|(simp only [← HZ1.out] <;> first|exact ok)
 have lx33:=kc5_ I
 refine ks3_ fun K O T Y=>?_
 refine tk ?_
 refine ck Tryz.call194 (fun w' hw=>qi6 r t _ _ (HT_.out) (I.out.r 7 rfl hw)) ?_
 refine tk ?_
 refine nz Y I O ?_;clear Y T I lx33 O K;intro vw4 I
 clear hd5
 refine wp_cond_false (by rfl) ?_
 refine wp_skip ?_
 show Code.wp _ _ _ _ _
 have lx25:=kc2_ I;have fx25:=kf2_ I
 have lx26:=kc3_ I;have fx26:=kf3_ I
 have lx32:=kc4_ I;have fx32:=kf4_ I
 have lx33:=kc5_ I;have fx33:=kf5_ I
 have r0:=Gr.refl vw4
 obtain ⟨d25_26,d26_25⟩:=I.out.ne 2 3 rfl rfl (by decide)
 obtain ⟨d25_32,d32_25⟩:=I.out.ne 2 4 rfl rfl (by decide)
 obtain ⟨d25_33,d33_25⟩:=I.out.ne 2 5 rfl rfl (by decide)
 obtain ⟨d26_32,d32_26⟩:=I.out.ne 3 4 rfl rfl (by decide)
 obtain ⟨d26_33,d33_26⟩:=I.out.ne 3 5 rfl rfl (by decide)
 obtain ⟨d32_33,d33_32⟩:=I.out.ne 4 5 rfl rfl (by decide)
 refine kS fun K O=>?_
 go_region
 go_wp2
 refine kO O ?_;clear O K
 clear r0 lx25 fx25 lx26 fx26 lx32 fx32 lx33 fx33 d25_26 d26_25 d25_32 d32_25 d25_33 d33_25 d26_32 d32_26 d26_33 d33_26 d32_33 d33_32
 refine fH ((((((((I.out).put2 2 0 rfl).put2 3 0 rfl).er 5).er 4).er 1).er 0).gr ((Below.refl _ _).drew)) fun Wx7 J=>?_
 clear I;have I:=J;clear J
 refine wp_ret ?_
 try simp only [Exit.then,Exit.inBlock]
 have lx25:=kc0_ I
 have lx26:=kc1_ I
 have r0:=Gr.refl Wx7
 exact bR ⟨⟨(.slice ao3 nn3 cc3),(.slice ao4 nn4 cc4),rfl,(I.out.rn 2 rfl),(I.out.rn 3 rfl)⟩,I.out.1⟩ qP2
theorem xt5 (a b q r m:Int) (va vb:Value) (w:World) (HQ:Hid (a / b=q)) (HR:Hid (a % b=r)) (HBS:Hid (0<b)) (H0:Hid (a<0)) (HM:Hid (-((a.natAbs % b.natAbs:Nat):Int)=m)) (HMS:Hid (m<0)) (HN:Hid (a.natAbs % b.natAbs≠0)) (HRS:Hid (0≤r)) (hs_a:tw (Int.natAbs a)≤100000000) (hs_b:tw (Int.natAbs b)≤100000000) (bx21:Rn w va a.natAbs) (bx22:Rn w vb b.natAbs) :
  Calls Tryz.prog 218 #[.agg #[.bool (a<0),va],.agg #[.bool (b<0),vb]] w fun e w'=>(∃ r1 r2:Value,e=.returned (.tuple #[(.agg #[.bool (q<0),r1]),(.agg #[.bool (r<0),r2])])∧Rn w' r1 q.natAbs∧Rn w' r2 r.natAbs)∧Gr w w':=by
 obtain ⟨ao_va,n_va,c_va,rfl⟩:=Rn.sl bx21
 obtain ⟨ao_vb,n_vb,c_vb,rfl⟩:=Rn.sl bx22
 go_enter Tryz.func218,Tryz.ntmps218
 have I:=lh_ (hp0 w)
 replace I:=lh_ ((I.out.ar bx21).ar bx22)
 simp only [lF,lG] at I
 clear bx21 bx22
 refine kSl fun K O=>?_;go_wp2
 refine kF_ O ((al3_ I).aL (w.heap.size+1+1+1)) fun Wx0 J=>?_;clear O K
 clear I;have I:=J;clear J
 generalize w.heap.size+1+1+1=gx26 at *
 generalize w.heap.size+1+1=gx25 at *
 generalize w.heap.size+1=gx24 at *
 obtain ⟨u1,HZ1⟩:=ex_ (a.natAbs / b.natAbs)
 have su1:tw u1≤100000000:=by rw [← HZ1.out];have:=qo0 a.natAbs b.natAbs;omega
 obtain ⟨u2,HZ2⟩:=ex_ (a.natAbs % b.natAbs)
 have su2:tw u2≤100000000:=by rw [← HZ2.out];have:=qr3 a.natAbs b.natAbs;omega
 have lx23:=kc2_ I
 have lx24:=kc3_ I
 refine kS fun K O=>?_
 have HG0:Hid (Gr Wx0 Wx0):=lh_ (Gr.refl _)
 refine qf_ fun T Y=>?_
 iterate 4 refine tk ?_
 refine ce2 Tryz.call176 HG0 (fun w' hw=>qB_ _ _ a.natAbs b.natAbs u1 u2 _ HZ1.out HZ2.out (I.out.r 0 rfl (HG0.out.trans hw)) (I.out.r 1 rfl (HG0.out.trans hw)) zb5_ om om) ?_;clear HG0;intro vv28 HG0 _ ao1 nn1 cc1 ao2 nn2 cc2 RN28 RN29
 clear lx23;have lx23:=fun w' (h:Gr _ w')=>kc2_ I w' (HG0.out.trans h)
 clear lx24;have lx24:=fun w' (h:Gr _ w')=>kc3_ I w' (HG0.out.trans h)
 iterate 5 refine tk ?_
 refine nzR Y O (fun w2 hg=>((I.out.gr (HG0.out.trans hg)).ar (RN28.out.gr hg)).ar (RN29.out.gr hg)) ?_;clear Y T I HG0 RN28 RN29 lx23 lx24 O K;intro vw1 I
 have hd1:decide (a<0)=true:=decide_eq_true zb5_
 have hd2:decide (b<0)=false:=decide_eq_false zb5_
 have hd3:decide (a<0)=true:=decide_eq_true zb5_
 obtain ⟨u3,HZ3⟩:=ex_ ((if true then -((u1:Nat):Int) else ((u1:Nat):Int)))
 have su3:tw u3.natAbs≤100000000:=by rw [← HZ3.out];split <;> simp <;> omega
 have HZ4:Hid ((if true then -((u2:Nat):Int) else ((u2:Nat):Int))=m):=lh_ (by rw [← HM.out,← HZ2.out];rfl)
 have su4:tw m.natAbs≤100000000:=by have e:=HZ4.out;first|omega|(rw [← e];split <;> simp <;> omega)
 have lx23:=kc2_ I
 have lx24:=kc3_ I
 refine kS fun K O=>?_
 have HG0:Hid (Gr vw1 vw1):=lh_ (Gr.refl _)
 refine wp_region_plan 13 [11,12] [] (fun i=>if i=11 then 8 else 9) (fun i=>if i=11 then .cells #[.bool false,.slice none 0 0] 45 else .cells #[.bool false,.slice none 0 0] 45) [(true,0),(true,1),(true,2),(true,3),(true,4),(true,5),(true,7),(true,8),(true,9),(false,6),(false,10)] (by kernel_rfl) (by kernel_rfl) zb7_ (fun i hi=>by cases hi) (fun _ _ _ _ _ h=>h) (fun T Y=>?_)
 iterate 9 refine tk ?_
 refine ce1 Tryz.call196 HG0 (fun w' hw=>qa8 true u1 u3 _ _ HZ3.out (I.out.r 6 rfl (HG0.out.trans hw))) ?_;clear HG0;intro vv30 HG0 _ ao3 nn3 cc3 RN30
 clear lx23;have lx23:=fun w' (h:Gr _ w')=>kc2_ I w' (HG0.out.trans h)
 clear lx24;have lx24:=fun w' (h:Gr _ w')=>kc3_ I w' (HG0.out.trans h)
 refine ce1 Tryz.call196 HG0 (fun w' hw=>qa8 true u2 m _ _ HZ4.out (I.out.r 7 rfl (HG0.out.trans hw))) ?_;clear HG0;intro vv31 HG0 HGS ao4 nn4 cc4 RN31
 replace RN30:=lh_ (RN30.out.gr HGS.out)
 clear HGS
 clear lx23;have lx23:=fun w' (h:Gr _ w')=>kc2_ I w' (HG0.out.trans h)
 clear lx24;have lx24:=fun w' (h:Gr _ w')=>kc3_ I w' (HG0.out.trans h)
 refine wpPlan_nil (Y.out _ _ ?_)
 intro G vw2 hg hf
 simp only [puts,Act.put,lA,lB,lC,lD,lE,↓reduceIte,Nat.reduceEqDiff]
 have J:=lh_ (((I.out.fr (HG0.out.trans hg) hf (zs:=[(#[.bool false,.slice none 0 0],45),(#[.bool false,.slice none 0 0],45)]) rfl (by decide) (by decide)).ar (RN30.out.gr hg)).ar (RN31.out.gr hg))
 simp only [zq1_,zq2_,zq3_,zq4_,lF,lG] at J
 clear Y T I hg hf HG0 RN30 RN31 lx23 lx24
 generalize G 11=gx32 at *
 generalize G 12=gx33 at *
 have lx32:=kc8_ J;have fx32:=kf8_ J
 have lx33:=kc9_ J;have fx33:=kf9_ J
 have r0:=Gr.refl vw2
 obtain ⟨d32_33,d33_32⟩:=J.out.ne 8 9 rfl rfl (by decide)
 go_wp2
 refine kO O ?_;clear O K
 clear r0 lx32 fx32 lx33 fx33 d32_33 d33_32
 refine fH (((((((J.out).put2 8 0 rfl).put2 9 0 rfl).er 7).er 6).er 2).er 0) fun Wx2 I=>?_
 clear J
 clear hd1 hd2 hd3
 refine wp_seq ?_
 have lx24:=kc1_ I
 have lx33:=kc5_ I
 refine qd4 fun K O T Y=>?_
 refine tk ?_
 refine ck Tryz.call194 (fun w' hw=>qi6 m (-1) _ _ xt2 (I.out.r 7 rfl hw)) ?_
 refine tk3_ ?_
 refine ck Tryz.call194 (fun w' hw=>qi6 b (1) _ _ xA2 (I.out.r 0 rfl hw)) ?_
 refine tk2_ ?_
 refine nz Y I O ?_;clear Y T I lx24 lx33 O K;intro vw3 I
 refine wp_cond_true (by rfl) ?_
 have HZ5:Hid ((1:Int)=1):=lh_ (by decide +kernel)
 have su5:tw (Int.natAbs (1))≤1:=qe_.2 (by decide +kernel)
 have HZ6:Hid (u3 - (1)=q):=lh_ (by have h0:=H0.out;have hb:=HBS.out;have hr:=HRS.out;have hm:=HMS.out;rw [← HQ.out,← dc (a:=a) (b:=b) false om (decide_eq_false om) om HN.out,HZ1.out];have e9:=HZ3.out;simp at e9 ⊢; omega)
 have su6:tw q.natAbs≤100000001:=by have e:=HZ6.out;first|omega|(rw [← e];have:=qZ5 u3 (1);omega)
 have HZ7:Hid (m+(b)=r):=lh_ xt3
 have su7:tw r.natAbs≤100000001:=by have e:=HZ7.out;first|omega|(rw [← e];have:=qp_ m b;omega)
 have lx24:=kc1_ I
 have lx32:=kc4_ I
 have lx33:=kc5_ I
 refine kS fun K O=>?_
 have HG0:Hid (Gr vw3 vw3):=lh_ (Gr.refl _)
 refine xw9 fun T Y=>?_
 refine tk3_ ?_
 refine ce1 Tryz.call211 HG0 (fun w' hw=>qG9 (1) (1) _ HZ5.out (by decide) (by decide)) ?_;clear HG0;intro vv34 HG0 _ ao5 nn5 cc5 RN34
 clear lx24;have lx24:=fun w' (h:Gr _ w')=>kc1_ I w' (HG0.out.trans h)
 clear lx32;have lx32:=fun w' (h:Gr _ w')=>kc4_ I w' (HG0.out.trans h)
 clear lx33;have lx33:=fun w' (h:Gr _ w')=>kc5_ I w' (HG0.out.trans h)
 refine ce1 Tryz.call252 HG0 (fun w' hw=>qK3 u3 (1) q _ _ _ HZ6.out om om (I.out.r 6 rfl (HG0.out.trans hw)) (RN34.out.gr hw)) ?_;clear HG0;intro vv35 HG0 HGS ao6 nn6 cc6 RN35
 replace RN34:=lh_ (RN34.out.gr HGS.out)
 clear HGS
 clear lx24;have lx24:=fun w' (h:Gr _ w')=>kc1_ I w' (HG0.out.trans h)
 clear lx32;have lx32:=fun w' (h:Gr _ w')=>kc4_ I w' (HG0.out.trans h)
 clear lx33;have lx33:=fun w' (h:Gr _ w')=>kc5_ I w' (HG0.out.trans h)
 refine ce1 Tryz.call210 HG0 (fun w' hw=>qo6 m b r _ _ _ HZ7.out om om (I.out.r 7 rfl (HG0.out.trans hw)) (I.out.r 0 rfl (HG0.out.trans hw))) ?_;clear HG0;intro vv36 HG0 HGS ao7 nn7 cc7 RN36
 replace RN34:=lh_ (RN34.out.gr HGS.out)
 replace RN35:=lh_ (RN35.out.gr HGS.out)
 clear HGS
 clear lx24;have lx24:=fun w' (h:Gr _ w')=>kc1_ I w' (HG0.out.trans h)
 clear lx32;have lx32:=fun w' (h:Gr _ w')=>kc4_ I w' (HG0.out.trans h)
 clear lx33;have lx33:=fun w' (h:Gr _ w')=>kc5_ I w' (HG0.out.trans h)
 refine wpPlan_nil (Y.out _ _ ?_)
 intro G vw4 hg hf
 simp only [puts,Act.put,lA,lB,lC,lD,lE,↓reduceIte,Nat.reduceEqDiff]
 have J:=lh_ ((((I.out.gr (HG0.out.trans hg)).ar (RN34.out.gr hg)).ar (RN35.out.gr hg)).ar (RN36.out.gr hg))
 simp only [zq1_,zq2_,zq3_,zq4_,lF,lG] at J
 clear Y T I hg hf HG0 RN34 RN35 RN36 lx24 lx32 lx33
 have lx25:=kc2_ J;have fx25:=kf2_ J
 have lx26:=kc3_ J;have fx26:=kf3_ J
 have r0:=Gr.refl vw4
 obtain ⟨d25_26,d26_25⟩:=J.out.ne 2 3 rfl rfl (by decide)
 go_wp2
 refine kO O ?_;clear O K
 clear r0 lx25 fx25 lx26 fx26 d25_26 d26_25
 refine fH ((((J.out).put2 2 0 rfl).put2 3 0 rfl).er 8) fun Wx4 I=>?_
 clear J
 refine wp_ret ?_
 try simp only [Exit.then,Exit.inBlock]
 have lx25:=kc2_ I
 have lx26:=kc3_ I
 have r0:=Gr.refl Wx4
 exact bR ⟨⟨(.slice ao6 nn6 cc6),(.slice ao7 nn7 cc7),rfl,(I.out.rn 8 rfl),(I.out.rn 9 rfl)⟩,I.out.1⟩ qP2
theorem xt4 (a b q r m:Int) (va vb:Value) (w:World) (HQ:Hid (a / b=q)) (HR:Hid (a % b=r)) (HBS:Hid (b<0)) (H0:Hid (a<0)) (HM:Hid (-((a.natAbs % b.natAbs:Nat):Int)=m)) (HMS:Hid (m<0)) (HN:Hid (a.natAbs % b.natAbs≠0)) (HRS:Hid (0≤r)) (hs_a:tw (Int.natAbs a)≤100000000) (hs_b:tw (Int.natAbs b)≤100000000) (bx21:Rn w va a.natAbs) (bx22:Rn w vb b.natAbs) :
  Calls Tryz.prog 218 #[.agg #[.bool (a<0),va],.agg #[.bool (b<0),vb]] w fun e w'=>(∃ r1 r2:Value,e=.returned (.tuple #[(.agg #[.bool (q<0),r1]),(.agg #[.bool (r<0),r2])])∧Rn w' r1 q.natAbs∧Rn w' r2 r.natAbs)∧Gr w w':=by
 obtain ⟨ao_va,n_va,c_va,rfl⟩:=Rn.sl bx21
 obtain ⟨ao_vb,n_vb,c_vb,rfl⟩:=Rn.sl bx22
 go_enter Tryz.func218,Tryz.ntmps218
 have I:=lh_ (hp0 w)
 replace I:=lh_ ((I.out.ar bx21).ar bx22)
 simp only [lF,lG] at I
 clear bx21 bx22
 refine kSl fun K O=>?_;go_wp2
 refine kF_ O ((al3_ I).aL (w.heap.size+1+1+1)) fun Wx0 J=>?_;clear O K
 clear I;have I:=J;clear J
 generalize w.heap.size+1+1+1=gx26 at *
 generalize w.heap.size+1+1=gx25 at *
 generalize w.heap.size+1=gx24 at *
 obtain ⟨u1,HZ1⟩:=ex_ (a.natAbs / b.natAbs)
 have su1:tw u1≤100000000:=by rw [← HZ1.out];have:=qo0 a.natAbs b.natAbs;omega
 obtain ⟨u2,HZ2⟩:=ex_ (a.natAbs % b.natAbs)
 have su2:tw u2≤100000000:=by rw [← HZ2.out];have:=qr3 a.natAbs b.natAbs;omega
 have lx23:=kc2_ I
 have lx24:=kc3_ I
 refine kS fun K O=>?_
 have HG0:Hid (Gr Wx0 Wx0):=lh_ (Gr.refl _)
 refine qf_ fun T Y=>?_
 iterate 4 refine tk ?_
 refine ce2 Tryz.call176 HG0 (fun w' hw=>qB_ _ _ a.natAbs b.natAbs u1 u2 _ HZ1.out HZ2.out (I.out.r 0 rfl (HG0.out.trans hw)) (I.out.r 1 rfl (HG0.out.trans hw)) zb5_ om om) ?_;clear HG0;intro vv28 HG0 _ ao1 nn1 cc1 ao2 nn2 cc2 RN28 RN29
 clear lx23;have lx23:=fun w' (h:Gr _ w')=>kc2_ I w' (HG0.out.trans h)
 clear lx24;have lx24:=fun w' (h:Gr _ w')=>kc3_ I w' (HG0.out.trans h)
 iterate 5 refine tk ?_
 refine nzR Y O (fun w2 hg=>((I.out.gr (HG0.out.trans hg)).ar (RN28.out.gr hg)).ar (RN29.out.gr hg)) ?_;clear Y T I HG0 RN28 RN29 lx23 lx24 O K;intro vw1 I
 have hd1:decide (a<0)=true:=decide_eq_true zb5_
 have hd2:decide (b<0)=true:=decide_eq_true zb5_
 have hd3:decide (a<0)=true:=decide_eq_true zb5_
 obtain ⟨u3,HZ3⟩:=ex_ ((if false then -((u1:Nat):Int) else ((u1:Nat):Int)))
 have su3:tw u3.natAbs≤100000000:=by rw [← HZ3.out];split <;> simp <;> omega
 have HZ4:Hid ((if true then -((u2:Nat):Int) else ((u2:Nat):Int))=m):=lh_ (by rw [← HM.out,← HZ2.out];rfl)
 have su4:tw m.natAbs≤100000000:=by have e:=HZ4.out;first|omega|(rw [← e];split <;> simp <;> omega)
 have lx23:=kc2_ I
 have lx24:=kc3_ I
 refine kS fun K O=>?_
 have HG0:Hid (Gr vw1 vw1):=lh_ (Gr.refl _)
 refine wp_region_plan 13 [11,12] [] (fun i=>if i=11 then 8 else 9) (fun i=>if i=11 then .cells #[.bool false,.slice none 0 0] 45 else .cells #[.bool false,.slice none 0 0] 45) [(true,0),(true,1),(true,2),(true,3),(true,4),(true,5),(true,7),(true,8),(true,9),(false,6),(false,10)] (by kernel_rfl) (by kernel_rfl) zb7_ (fun i hi=>by cases hi) (fun _ _ _ _ _ h=>h) (fun T Y=>?_)
 iterate 9 refine tk ?_
 refine ce1 Tryz.call196 HG0 (fun w' hw=>qa8 false u1 u3 _ _ HZ3.out (I.out.r 6 rfl (HG0.out.trans hw))) ?_;clear HG0;intro vv30 HG0 _ ao3 nn3 cc3 RN30
 clear lx23;have lx23:=fun w' (h:Gr _ w')=>kc2_ I w' (HG0.out.trans h)
 clear lx24;have lx24:=fun w' (h:Gr _ w')=>kc3_ I w' (HG0.out.trans h)
 refine ce1 Tryz.call196 HG0 (fun w' hw=>qa8 true u2 m _ _ HZ4.out (I.out.r 7 rfl (HG0.out.trans hw))) ?_;clear HG0;intro vv31 HG0 HGS ao4 nn4 cc4 RN31
 replace RN30:=lh_ (RN30.out.gr HGS.out)
 clear HGS
 clear lx23;have lx23:=fun w' (h:Gr _ w')=>kc2_ I w' (HG0.out.trans h)
 clear lx24;have lx24:=fun w' (h:Gr _ w')=>kc3_ I w' (HG0.out.trans h)
 refine wpPlan_nil (Y.out _ _ ?_)
 intro G vw2 hg hf
 simp only [puts,Act.put,lA,lB,lC,lD,lE,↓reduceIte,Nat.reduceEqDiff]
 have J:=lh_ (((I.out.fr (HG0.out.trans hg) hf (zs:=[(#[.bool false,.slice none 0 0],45),(#[.bool false,.slice none 0 0],45)]) rfl (by decide) (by decide)).ar (RN30.out.gr hg)).ar (RN31.out.gr hg))
 simp only [zq1_,zq2_,zq3_,zq4_,lF,lG] at J
 clear Y T I hg hf HG0 RN30 RN31 lx23 lx24
 generalize G 11=gx32 at *
 generalize G 12=gx33 at *
 have lx32:=kc8_ J;have fx32:=kf8_ J
 have lx33:=kc9_ J;have fx33:=kf9_ J
 have r0:=Gr.refl vw2
 obtain ⟨d32_33,d33_32⟩:=J.out.ne 8 9 rfl rfl (by decide)
 go_wp2
 refine kO O ?_;clear O K
 clear r0 lx32 fx32 lx33 fx33 d32_33 d33_32
 refine fH (((((((J.out).put2 8 0 rfl).put2 9 0 rfl).er 7).er 6).er 2).er 0) fun Wx2 I=>?_
 clear J
 clear hd1 hd2 hd3
 refine wp_seq ?_
 have lx24:=kc1_ I
 have lx33:=kc5_ I
 refine qd4 fun K O T Y=>?_
 refine tk ?_
 refine ck Tryz.call194 (fun w' hw=>qi6 m (-1) _ _ xt2 (I.out.r 7 rfl hw)) ?_
 refine tk3_ ?_
 refine ck Tryz.call194 (fun w' hw=>qi6 b (-1) _ _ (by have e9:(b)<(0:Int):=xs_;exact qX_ e9) (I.out.r 0 rfl hw)) ?_
 refine tk2_ ?_
 refine nz Y I O ?_;clear Y T I lx24 lx33 O K;intro vw3 I
 refine wp_cond_false (by rfl) ?_
 refine wp_skip ?_
 show Code.wp _ _ _ _ _
 refine wp_seq ?_
 have lx33:=kc5_ I
 refine ks3_ fun K O T Y=>?_
 refine tk ?_
 refine ck Tryz.call194 (fun w' hw=>qi6 m (-1) _ _ xt2 (I.out.r 7 rfl hw)) ?_
 refine tk ?_
 refine nz Y I O ?_;clear Y T I lx33 O K;intro vw4 I
 refine wp_cond_true (by rfl) ?_
 have HZ5:Hid ((1:Int)=1):=lh_ (by decide +kernel)
 have su5:tw (Int.natAbs (1))≤1:=qe_.2 (by decide +kernel)
 have HZ6:Hid (u3+(1)=q):=lh_ (by have h0:=H0.out;have hb:=HBS.out;have hr:=HRS.out;have hm:=HMS.out;rw [← HQ.out,← dc (a:=a) (b:=b) true om (decide_eq_true om) om HN.out,HZ1.out];have e9:=HZ3.out;simp at e9 ⊢; omega)
 have su6:tw q.natAbs≤100000001:=by have e:=HZ6.out;first|omega|(rw [← e];have:=qp_ u3 (1);omega)
 have HZ7:Hid (m - b=r):=lh_ xt3
 have su7:tw r.natAbs≤100000001:=by have e:=HZ7.out;first|omega|(rw [← e];have:=qZ5 m b;omega)
 have lx24:=kc1_ I
 have lx32:=kc4_ I
 have lx33:=kc5_ I
 refine kS fun K O=>?_
 have HG0:Hid (Gr vw4 vw4):=lh_ (Gr.refl _)
 refine xw9 fun T Y=>?_
 refine tk3_ ?_
 refine ce1 Tryz.call211 HG0 (fun w' hw=>qG9 (1) (1) _ HZ5.out (by decide) (by decide)) ?_;clear HG0;intro vv34 HG0 _ ao5 nn5 cc5 RN34
 clear lx24;have lx24:=fun w' (h:Gr _ w')=>kc1_ I w' (HG0.out.trans h)
 clear lx32;have lx32:=fun w' (h:Gr _ w')=>kc4_ I w' (HG0.out.trans h)
 clear lx33;have lx33:=fun w' (h:Gr _ w')=>kc5_ I w' (HG0.out.trans h)
 refine ce1 Tryz.call210 HG0 (fun w' hw=>qo6 u3 (1) q _ _ _ HZ6.out om om (I.out.r 6 rfl (HG0.out.trans hw)) (RN34.out.gr hw)) ?_;clear HG0;intro vv35 HG0 HGS ao6 nn6 cc6 RN35
 replace RN34:=lh_ (RN34.out.gr HGS.out)
 clear HGS
 clear lx24;have lx24:=fun w' (h:Gr _ w')=>kc1_ I w' (HG0.out.trans h)
 clear lx32;have lx32:=fun w' (h:Gr _ w')=>kc4_ I w' (HG0.out.trans h)
 clear lx33;have lx33:=fun w' (h:Gr _ w')=>kc5_ I w' (HG0.out.trans h)
 refine ce1 Tryz.call252 HG0 (fun w' hw=>qK3 m b r _ _ _ HZ7.out om om (I.out.r 7 rfl (HG0.out.trans hw)) (I.out.r 0 rfl (HG0.out.trans hw))) ?_;clear HG0;intro vv36 HG0 HGS ao7 nn7 cc7 RN36
 replace RN34:=lh_ (RN34.out.gr HGS.out)
 replace RN35:=lh_ (RN35.out.gr HGS.out)
 clear HGS
 clear lx24;have lx24:=fun w' (h:Gr _ w')=>kc1_ I w' (HG0.out.trans h)
 clear lx32;have lx32:=fun w' (h:Gr _ w')=>kc4_ I w' (HG0.out.trans h)
 clear lx33;have lx33:=fun w' (h:Gr _ w')=>kc5_ I w' (HG0.out.trans h)
 refine wpPlan_nil (Y.out _ _ ?_)
 intro G vw5 hg hf
 simp only [puts,Act.put,lA,lB,lC,lD,lE,↓reduceIte,Nat.reduceEqDiff]
 have J:=lh_ ((((I.out.gr (HG0.out.trans hg)).ar (RN34.out.gr hg)).ar (RN35.out.gr hg)).ar (RN36.out.gr hg))
 simp only [zq1_,zq2_,zq3_,zq4_,lF,lG] at J
 clear Y T I hg hf HG0 RN34 RN35 RN36 lx24 lx32 lx33
 have lx25:=kc2_ J;have fx25:=kf2_ J
 have lx26:=kc3_ J;have fx26:=kf3_ J
 have r0:=Gr.refl vw5
 obtain ⟨d25_26,d26_25⟩:=J.out.ne 2 3 rfl rfl (by decide)
 go_wp2
 refine kO O ?_;clear O K
 clear r0 lx25 fx25 lx26 fx26 d25_26 d26_25
 refine fH ((((((J.out).put2 2 0 rfl).put2 3 0 rfl).er 8).er 1).er 0) fun Wx6 I=>?_
 clear J
 refine wp_ret ?_
 try simp only [Exit.then,Exit.inBlock]
 have lx25:=kc0_ I
 have lx26:=kc1_ I
 have r0:=Gr.refl Wx6
 exact bR ⟨⟨(.slice ao6 nn6 cc6),(.slice ao7 nn7 cc7),rfl,(I.out.rn 6 rfl),(I.out.rn 7 rfl)⟩,I.out.1⟩ qP2
theorem xF0 (a b q r:Int) (va vb:Value) (w:World) (hq:a / b=q) (hr:a % b=r) (h0:b≠0) (hs_a:tw (Int.natAbs a)≤100000000) (hs_b:tw (Int.natAbs b)≤100000000) (bx21:Rn w va a.natAbs) (bx22:Rn w vb b.natAbs) :
  Calls Tryz.prog 218 #[.agg #[.bool (decide (a<0)),va],.agg #[.bool (decide (b<0)),vb]] w fun e w'=>(∃ r1 r2:Value,e=.returned (.tuple #[.agg #[.bool (decide (q<0)),r1],.agg #[.bool (decide (r<0)),r2]])∧Rn w' r1 q.natAbs∧Rn w' r2 r.natAbs)∧Gr w w':=by
 have hr0:0≤r:=by rw [← hr];exact (qt7 a h0).2
 have ht:¬ sgI r<0:=by rw [qY0];omega
 by_cases h1:0≤a
 ·rcases Int.lt_or_gt_of_ne h0 with h2|h2
  ·exact xt6 a b q r _ va vb w (lh_ hq) (lh_ hr) (lh_ h2) (lh_ h1) (lh_ rfl) ht (lh_ hr0) hs_a hs_b bx21 bx22
  exact xt7 a b q r _ va vb w (lh_ hq) (lh_ hr) (lh_ h2) (lh_ h1) (lh_ rfl) ht (lh_ hr0) hs_a hs_b bx21 bx22
 by_cases hm:a.natAbs % b.natAbs=0
 ·rcases Int.lt_or_gt_of_ne h0 with h2|h2
  ·exact xt8 a b q r _ va vb w (lh_ hq) (lh_ hr) (lh_ h2) (lh_ om) (lh_ hm) (lh_ rfl) ht (lh_ hr0) hs_a hs_b bx21 bx22
  exact xt9 a b q r _ va vb w (lh_ hq) (lh_ hr) (lh_ h2) (lh_ om) (lh_ hm) (lh_ rfl) ht (lh_ hr0) hs_a hs_b bx21 bx22
 rcases Int.lt_or_gt_of_ne h0 with h2|h2
 ·exact xt4 a b q r _ va vb w (lh_ hq) (lh_ hr) (lh_ h2) (lh_ om) (lh_ rfl) (lh_ om) (lh_ hm) (lh_ hr0) hs_a hs_b bx21 bx22
 exact xt5 a b q r _ va vb w (lh_ hq) (lh_ hr) (lh_ h2) (lh_ om) (lh_ rfl) (lh_ om) (lh_ hm) (lh_ hr0) hs_a hs_b bx21 bx22
end Go.Proofs.YtobojnodohjiaaaGreatDoor
