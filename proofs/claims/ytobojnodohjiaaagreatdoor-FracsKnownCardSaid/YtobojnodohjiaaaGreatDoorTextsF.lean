
/- FracsTexts: the law's walk. -/
import Derived.Test.YtobojnodohjiaaaGreatDoorPW
import Derived.Test.YtobojnodohjiaaaGreatDoorGreatP
import Derived.Test.YtobojnodohjiaaaGreatDoorWorksQ
import Derived.Test.YtobojnodohjiaaaGreatDoorQFew1
import Derived.Test.YtobojnodohjiaaaGreatDoorFieldP
set_option linter.unusedVariables false
set_option linter.unusedSimpArgs false
namespace Go.Proofs.YtobojnodohjiaaaGreatDoor
open Go.RowKit
def noSl (t:ByteArray):Prop:=∀ c,c ∈ t.data.toList→c≠47
theorem xo5 (l:List UInt8) (h:∀ c,c ∈ l→c≠47):Lib.indexByte l 47 = -1:=by
 induction l with
 | nil=>rfl
 | cons b l ih =>
  unfold Lib.indexByte
  rw [if_neg (by have:=h b (List.mem_cons_self ..);simpa using this),if_pos (by rw [ih (fun c hc=>h c (List.mem_cons_of_mem _ hc))];rfl)]
theorem xv3 (l m:List UInt8) (h:∀ c,c ∈ l→c≠47):Lib.indexByte (l ++ 47 :: m) 47=(l.length:Int):=by
 induction l with
 | nil=>rfl
 | cons b l ih =>
  have e:=ih (fun c hc=>h c (List.mem_cons_of_mem _ hc))
  rw [List.cons_append]
  unfold Lib.indexByte
  rw [if_neg (by have:=h b (List.mem_cons_self ..);simpa using this),e,if_neg (by intro e;have:=beq_iff_eq.1 e;omega)]
  rw [List.length_cons];omega
theorem xb7 (t:ByteArray) (h:noSl t):fup t=t∧ftwo t=false:=by
 have e:fi t = -1:=xo5 _ h
 unfold fup ftwo
 rw [e]
 exact ⟨rfl,rfl⟩
theorem qP_ {a b:ByteArray} (h:a.data.toList=b.data.toList):a=b:=by
 cases a;cases b
 congr 1
 exact Array.toList_inj.1 h
theorem xm9 (t d:ByteArray) (h:noSl t):fup (t ++ (⟨#[47]⟩:ByteArray) ++ d)=t∧fdn (t ++ (⟨#[47]⟩:ByteArray) ++ d)=d∧ftwo (t ++ (⟨#[47]⟩:ByteArray) ++ d)=true:=by
 have hl:(t ++ (⟨#[47]⟩:ByteArray) ++ d).data.toList=t.data.toList ++ 47 :: d.data.toList:=by simp
 have e:fi (t ++ (⟨#[47]⟩:ByteArray) ++ d)=(t.size:Int):=by
  unfold fi
  rw [hl,xv3 _ _ h]
  simp
 have hn:t.data.toList.length=t.size:=by simp
 have hz:(t ++ (⟨#[47]⟩:ByteArray) ++ d).size=t.size+1+d.size:=by simp;rfl
 unfold fup fdn ftwo
 rw [e,if_pos om,if_pos om,hz]
 refine ⟨?_,?_,decide_eq_true om⟩
 ·apply qP_
  have h1:((t ++ (⟨#[47]⟩:ByteArray) ++ d).extract 0 ((t.size:Int)).toNat).toList=t.toList:=by
   rw [Lib.extract_toList,← Lib.toList_data] at *
   simp [Lib.toList_data,hl,hn]
  rw [Lib.toList_data,Lib.toList_data] at h1
  exact h1
 apply qP_
 have h1:((t ++ (⟨#[47]⟩:ByteArray) ++ d).extract (((t.size:Int)).toNat+1) (t.size+1+d.size)).toList=d.toList:=by
  have hd:t.size+1 - t.data.toList.length=1:=by omega
  have hn2:t.data.toList.drop (t.size+1) = []:=List.drop_eq_nil_of_le om
  have hm:d.data.toList.length=d.size:=by simp
  rw [Lib.extract_toList,hl,Lib.toList_data]
  show List.take _ (List.drop (t.size+1) _)=_
  have he:t.size+1+d.size - (((t.size:Nat):Int).toNat+1)=d.data.toList.length:=by omega
  rw [List.drop_append,hd,hn2,he]
  exact List.take_length
 rw [Lib.toList_data,Lib.toList_data] at h1
 exact h1
theorem qI7 (n:Nat):noSl ⟨(Lib.decDigits n).toArray⟩:=fun c hc=>by
 have:=qp0 n c (by simpa using hc)
 intro e
 subst e
 exact absurd this.1 (by decide)
theorem qI8 (a:Int):noSl (itx a):=fun c hc=>by
 rw [qk4] at hc
 split at hc
 ·rcases List.mem_cons.1 hc with h|h
  ·subst h;decide
  exact qI7 a.natAbs c (by simpa using h)
 exact qI7 a.natAbs c (by simpa using hc)
theorem read_ratio (n:Int) (d:Nat) (h1:Lib.nDigits n.natAbs≤4096) (h2:Lib.nDigits d≤4096):qc4 (itx n ++ (⟨#[47]⟩:ByteArray) ++ ⟨(Lib.decDigits d).toArray⟩)=(if d=0 then 5 else 0)∧fnum (itx n ++ (⟨#[47]⟩:ByteArray) ++ ⟨(Lib.decDigits d).toArray⟩)=mkRat n d:=by
 obtain ⟨c1,c2,c3⟩:=xm9 (itx n) ⟨(Lib.decDigits d).toArray⟩ (qI8 n)
 obtain ⟨p1,p2⟩:=qA1 n h1
 obtain ⟨q1,q2⟩:=qI9 d h2
 unfold qc4 fnum
 rw [c1,c2,c3,p1,p2,q1,q2]
 by_cases h:d=0 <;> simp [h]
theorem read_ftx (q:Rat) (h1:Lib.nDigits q.num.natAbs≤4096) (h2:Lib.nDigits q.den≤4096):qc4 (ftx q)=0∧fnum (ftx q)=q:=by
 unfold ftx
 by_cases h:q.den=1
 ·rw [if_pos h]
  obtain ⟨c1,c3⟩:=xb7 (itx q.num) (qI8 _)
  obtain ⟨p1,p2⟩:=qA1 q.num h1
  unfold qc4 fnum
  rw [c1,c3,p1,p2]
  refine ⟨by simp,?_⟩
  simp
  exact Rat.ext rfl h.symm
 rw [if_neg h]
 obtain ⟨e1,e2⟩:=read_ratio q.num q.den h1 h2
 rw [if_neg (Nat.ne_of_gt q.den_pos)] at e1
 exact ⟨e1,e2.trans (Rat.mkRat_self q)⟩
theorem xB0 (q:Rat) (s:ByteArray) (w:World) (h:ftx q=s) (hs:sz q≤100000) (HT:Hid (Tab w)) :
  CB 153 #[(Value.agg #[.int .u64 (lo q.num.natAbs),.string (bg q.num.natAbs),.bool (q.num<0),.int .u64 (lo (q.den - 1)),.string (bg (q.den - 1))])] w (.string s):=h ▸ qt5 q w hs HT
theorem dg_small {n k:Nat} (h:wl n≤k):Lib.nDigits n≤32*k+1:=by
 have h1:=qe6 n
 have h2:=nb_wl n
 have:32*wl n≤32*k:=Nat.mul_le_mul_left _ h
 omega
theorem read_zero (n:Int) (h1:Lib.nDigits n.natAbs≤4096):qc4 (itx n ++ (⟨#[47,48]⟩:ByteArray))=5∧fnum (itx n ++ (⟨#[47,48]⟩:ByteArray))=0:=by
 obtain ⟨e1,e2⟩:=read_ratio n 0 h1 (by decide +kernel)
 have e:itx n ++ (⟨#[47]⟩:ByteArray) ++ (⟨(Lib.decDigits 0).toArray⟩:ByteArray)=itx n ++ (⟨#[47,48]⟩:ByteArray):=by
  apply qP_
  have:Lib.decDigits 0 = [48]:=by decide +kernel
  rw [this]
  simp
 rw [e] at e1 e2
 exact ⟨e1,by rw [e2,Rat.mkRat_zero]⟩
theorem itx_sm {a:Int} {k:Nat} (h:wl a.natAbs≤k):(itx a).size≤32*k+2:=by
 have h1:=dg_small h
 have h3:=qx1 a
 rw [h3]
 split <;> omega
theorem ftx_sm {q:Rat} {k:Nat} (h:sz q≤k):(ftx q).size≤64*k+5:=by
 have h1:=itx_sm (Nat.le_trans (sz_num q) h)
 have h2:=dg_small (Nat.le_trans (sz_den q) h)
 have h3:=Lib.decDigits_length q.den
 unfold ftx
 split
 ·omega
 have:(⟨#[47]⟩:ByteArray).size=1:=rfl
 have h5:(⟨(Lib.decDigits q.den).toArray⟩:ByteArray).size=Lib.nDigits q.den:=by rw [size_mk,h3]
 rw [cat_size,cat_size]
 omega
end Go.Proofs.YtobojnodohjiaaaGreatDoor

set_option maxRecDepth 100000
set_option maxHeartbeats 16000000
set_option linter.unusedVariables false
set_option linter.unusedSimpArgs false
namespace Go.Proofs.YtobojnodohjiaaaGreatDoor
open Go.RowKit
attribute [local go_sem ↓] Go.wp_at_zero Go.wp_at_succ
attribute [local go_sem ↓] eq_nat eq_nat_zero eq_int eq_frac eq_frac_zero
attribute [local go_sem] Instr.field asAgg
theorem textq_main (bbxn:Bool) (vxn:Value) (kxn:Nat) (fxn:Nat→Nat) (mxn:Nat) (ixn:Int) (vxd:Value) (kxd:Nat) (fxd:Nat→Nat) (mxd:Nat) (a:Rat) (d:Nat) (s1 tn td t1 t2 t3:ByteArray) (w:World) (HWxn:Hid (Wa w vxn kxn fxn)) (HFxn:Hid (∀ i,i<kxn→fxn i<4294967296)) (HVxn:Hid (vl fxn kxn=mxn)) (HAxn:Hid ((if bbxn then -((mxn:Nat):Int) else ((mxn:Nat):Int))=ixn)) (HWxd:Hid (Wa w vxd kxd fxd)) (HFxd:Hid (∀ i,i<kxd→fxd i<4294967296)) (HVxd:Hid (vl fxd kxd=mxd)) (HQx:Hid (mkRat ixn (mxd+1)=a)) (hkxn:kxn≤10) (hkxd:kxd≤10) (HD:Hid (mxd+1=d)) (HS1:Hid (ftx a=s1)) (HN1:Hid (fnum s1=a)) (HC1:Hid (qc4 s1=0)) (HTN:Hid (itx ixn=tn)) (HTD:Hid ((⟨(Lib.decDigits d).toArray⟩:ByteArray)=td)) (HT1:Hid (tn ++ (⟨#[47]⟩:ByteArray)=t1)) (HT2:Hid (t1 ++ td=t2)) (HT3:Hid (tn ++ (⟨#[47,48]⟩:ByteArray)=t3)) (HN2:Hid (fnum t2=a)) (HC2:Hid (qc4 t2=0)) (HN3:Hid (fnum t3=0)) (HC3:Hid (qc4 t3=5)) (hz1:s1.size≤100000) (hz2:tn.size≤10000) (hz3:td.size≤10000) (hz4:t1.size≤20000) (hz5:t2.size≤40000) (hz6:t3.size≤40000) (HT:Hid (Tab w)) :
  CB 58 #[.agg #[.bool bbxn,vxn,vxd]] w (.bool true):=by
 obtain ⟨ao_xn,c_xn,rfl⟩:=HWxn.out.slice
 obtain ⟨ao_xd,c_xd,rfl⟩:=HWxd.out.slice
 have hm_xn:wl mxn≤10:=by rw [← HVxn.out];have:=wl_le.2 (vl_lt HFxn.out);omega
 have hm_xd:wl mxd≤10:=by rw [← HVxd.out];have:=wl_le.2 (vl_lt HFxd.out);omega
 have hi_x:wl (Int.natAbs ixn)≤10:=by rw [zsize HAxn.out];exact hm_xn
 have hs_x:sz a≤11:=by rw [← HQx.out];exact sz_great hi_x hm_xd
 have hr_x:rz a≤33:=by rw [← HQx.out];exact qc2 hi_x hm_xd (by decide)
 have hmi:wl (Int.natAbs (mxd:Int))≤10:=by rw [Int.natAbs_natCast];exact hm_xd
 go_enter Tryz.func58,Tryz.ntmps58
 have I:=lh_ (hp0 w)
 refine kSl fun K O=>?_;go_wp2
 refine kF_ O (al1_ I) fun Wx0 J=>?_;clear O K
 clear I;have I:=J;clear J
 refine wp_seq ?_
 have lx0:=kc0_ I
 refine kS fun K O=>?_
 have HG0:Hid (Gr Wx0 Wx0):=lh_ (Gr.refl _)
 refine sq4_ fun T Y=>?_
 refine tk ?_
 refine qb5 (cs:=#[.bool bbxn,(.slice ao_xn kxn c_xn),(.slice ao_xd kxd c_xd)]) (E:=83) (n:=1) rfl (by rfl) (fun w' hw=>?_) (fun gx2 vv2 hg0 yx2 bx2=>?_)
 ·go_simp
 clear yx2
 replace HG0:=lh_ (HG0.out.trans hg0)
 have HGS:=lh_ hg0;clear hg0
 clear HGS
 have BX2:=lh_ bx2;clear bx2
 clear lx0;have lx0:=kg0_ I HG0
 simp only [Act.put,lA,lB,lC]
 refine ck Tryz.call127 (fun w' hw=>qi_ _ _ _ _ _ _ _ 10 gx2 _ (BX2.out.gr hw) om om) ?_
 refine tk ?_
 refine nzR Y O (fun w2 hg=>I.out.gr (HG0.out.trans hg)) ?_;clear Y T I HG0 BX2 lx0 O K;intro vw1 I
 refine wp_cond_false (by rfl) ?_
 refine wp_skip ?_
 show Code.wp _ _ _ _ _
 have HB:=HPb I
 have lx0:=kc0_ I
 refine ks2_ fun K O T Y=>?_
 refine tk ?_
 refine ck Tryz.call35 (fun w' hw=>qd2 bbxn kxn fxn mxn ixn kxd fxd mxd a ao_xn c_xn ao_xd c_xd w' (lh_ (HWxn.out.gr (Gr.trans HB.out hw))) HFxn HVxn HAxn (lh_ (HWxd.out.gr (Gr.trans HB.out hw))) HFxd HVxd HQx om om om om) ?_
 refine nlS Y I fun vw2 J=>?_
 clear Y T I lx0 HB
 go_wp2
 refine kF_ O ((J.out).aL (vw2.heap.size)) fun Wx3 I=>?_;clear O K
 clear J
 generalize vw2.heap.size=gx3 at *
 have HB:=HPb I
 have lx3:=kc1_ I
 refine qa2 fun K O T Y=>?_
 refine tk ?_
 refine ck Tryz.call153 (fun w' hw=>xB0 a s1 _ HS1.out om (lh_ (HT.out.gr (Gr.trans HB.out hw)))) ?_
 refine ck Tryz.call152 (fun w' hw=>qg3 s1 a (0) _ HN1.out HC1.out om) ?_
 refine tk3_ ?_
 refine nlS Y I fun vw3 J=>?_
 clear Y T I lx3 HB
 go_wp2
 refine kF_ O ((J.out).aL (vw3.heap.size)) fun Wx4 I=>?_;clear O K
 clear J
 generalize vw3.heap.size=gx4 at *
 have HB:=HPb I
 have su_0_5:wl 1≤1:=wl_le.2 (by decide +kernel)
 have HZ1:Hid ((Int.natAbs ((mxd:Int)))+(1)=d):=lh_ (by rw [← HD.out];rfl)
 have su1:wl d≤11:=by have e:=HZ1.out;first|omega|(rw [← e];have:=wl_add (Int.natAbs ((mxd:Int))) (1);omega)
 have lx0:=kc0_ I
 refine kS fun K O=>?_
 refine wp_region_plan 11 [9,10] [] (fun i=>if i=9 then 6 else 7) (fun i=>if i=9 then .cells #[.int .u64 0,.string ⟨#[]⟩,.bool false] 34 else .cells #[.int .u64 0,.string ⟨#[]⟩] 30) [(true,0),(true,1),(true,3),(true,2),(true,4),(true,5),(true,6),(true,7),(true,8)] (by kernel_rfl) (by kernel_rfl) zb7_ (fun i hi=>by cases hi) (fun _ _ _ _ _ h=>h) (fun T Y=>?_)
 refine tk3_ ?_
 refine ck Tryz.call32 (fun w' hw=>zlof bbxn kxn fxn mxn ixn ao_xn c_xn w' (lh_ (HWxn.out.gr (Gr.trans HB.out hw))) HFxn HVxn HAxn om om) ?_
 refine ck Tryz.call112 (fun w' hw=>qw7 bbxn (.slice ao_xn kxn c_xn) (.slice ao_xd kxd c_xd) _) ?_
 refine ck Tryz.call32 (fun w' hw=>zlof false kxd fxd mxd (mxd:Int) ao_xd c_xd w' (lh_ (HWxd.out.gr (Gr.trans HB.out hw))) HFxd HVxd (lh_ rfl) om om) ?_
 refine ck Tryz.call100 (fun w' hw=>qd9 ((mxd:Int)) _) ?_
 refine ck Tryz.call24 (fun w' hw=>nzof 1 _ (by decide)) ?_
 refine ck Tryz.call109 (fun w' hw=>xp0 (Int.natAbs ((mxd:Int))) (1) d _ HZ1.out om om) ?_
 refine wpPlan_nil (Y.out _ _ ?_)
 intro G vw4 hg hf
 simp only [puts,Act.put,lA,lB,lC,lD,lE,↓reduceIte,Nat.reduceEqDiff]
 have J:=lh_ (I.out.fr hg hf (zs:=[(#[.int .u64 0,.string ⟨#[]⟩,.bool false],34),(#[.int .u64 0,.string ⟨#[]⟩],30)]) rfl (by decide) (by decide))
 simp only [zq1_,zq2_,zq3_,zq4_,lF,lG] at J
 clear Y T I hg hf lx0 HB
 generalize G 9=gx5 at *
 generalize G 10=gx6 at *
 have lx5:=kc3_ J;have fx5:=kf3_ J
 have lx6:=kc4_ J;have fx6:=kf4_ J
 have r0:=Gr.refl vw4
 obtain ⟨d5_6,d6_5⟩:=J.out.ne 3 4 rfl rfl (by decide)
 go_wp2
 refine kO O ?_;clear O K
 clear r0 lx5 fx5 lx6 fx6 d5_6 d6_5
 refine fH (((((J.out).put2 3 0 rfl).put 3 2 _ rfl).put2 4 0 rfl).er 0) fun Wx5 I=>?_
 clear J
 have HB:=HPb I
 have hlen1:¬ (9223372036854775807<tn.size+1):=by omega
 have hcat1:tn ++ (⟨#[47]⟩:ByteArray)=t1:=HT1.out
 have hlen2:¬ (9223372036854775807<t1.size+td.size):=by omega
 have hcat2:t1 ++ td=t2:=HT2.out
 have lx5:=kc2_ I
 have lx6:=kc3_ I
 refine kS fun K O=>?_
 refine wp_region_plan 11 [10] [9] (fun _=>8) (fun _=>.cells #[.int .u64 0,.string ⟨#[]⟩,.bool false,.int .u64 0,.string ⟨#[]⟩] 36) [(true,0),(true,3),(true,1),(true,2),(true,4),(true,5),(true,6),(true,7),(true,8),(true,9)] (by kernel_rfl) (by kernel_rfl) qu_ qr6 (fun _ _ _ _ _ h=>h) (fun T Y=>?_)
 refine tk2_ ?_
 refine ck Tryz.call141 (fun w' hw=>qw1 ixn tn _ HTN.out om (lh_ (HT.out.gr (Gr.trans HB.out hw)))) ?_
 refine tk ?_
 refine ck Tryz.call154 (fun w' hw=>qV7 d td _ HTD.out om (lh_ (HT.out.gr (Gr.trans HB.out hw)))) ?_
 refine tk ?_
 refine ck Tryz.call152 (fun w' hw=>qg3 t2 a (0) _ HN2.out HC2.out om) ?_
 refine tk3_ ?_
 refine wpPlan_nil (Y.out _ _ ?_)
 intro G vw5 hg hf
 simp only [puts,Act.put,lA,lB,lC,lD,lE,↓reduceIte,Nat.reduceEqDiff]
 have J:=lh_ (I.out.fr hg hf (zs:=[(#[.int .u64 0,.string ⟨#[]⟩,.bool false,.int .u64 0,.string ⟨#[]⟩],36)]) rfl (by decide) (by decide))
 simp only [zq1_,zq2_,zq3_,zq4_,lF,lG] at J
 clear Y T I hg hf lx5 lx6 HB
 generalize G 10=gx7 at *
 have lx7:=kc4_ J;have fx7:=kf4_ J
 have r0:=Gr.refl vw5
 go_wp2
 refine kO O ?_;clear O K
 clear r0 lx7 fx7
 refine fH (((((J.out).put2 4 0 rfl).put2 4 2 rfl).put 4 4 _ rfl).er 3) fun Wx6 I=>?_
 clear J
 clear hlen1 hcat1 hlen2 hcat2
 have HB:=HPb I
 have hlen3:¬ (9223372036854775807<tn.size+2):=by omega
 have hcat3:tn ++ (⟨#[47,48]⟩:ByteArray)=t3:=HT3.out
 have lx5:=kc2_ I
 refine ks7_ fun K O T Y=>?_
 refine tk ?_
 refine ck Tryz.call141 (fun w' hw=>qw1 ixn tn _ HTN.out om (lh_ (HT.out.gr (Gr.trans HB.out hw)))) ?_
 refine tk ?_
 refine ck Tryz.call152 (fun w' hw=>qg3 t3 (0:Rat) (5) _ HN3.out HC3.out om) ?_
 refine tk3_ ?_
 refine nlS Y I fun vw6 J=>?_
 clear Y T I lx5 HB
 go_wp2
 refine kF_ O ((((J.out).aL (vw6.heap.size)).er 4).er 2) fun Wx7 I=>?_;clear O K
 clear J
 generalize vw6.heap.size=gx8 at *
 clear hlen3 hcat3
 have HB:=HPb I
 have lx3:=kc0_ I
 have lx4:=kc1_ I
 have lx7:=kc2_ I
 refine qz6 fun K O T Y=>?_
 iterate 21 refine tk ?_
 refine ck Tryz.call62 (fun w' hw=>worksq_any _ (lh_ (HT.out.gr (Gr.trans HB.out hw)))) ?_
 refine tk2_ ?_
 refine nzR Y O (fun w2 hg=>(((I.out.gr hg).er 2).er 1).er 0) ?_;clear Y T I lx3 lx4 lx7 HB O K;intro Wx8 I
 refine wp_ret ?_
 try simp only [Exit.then,Exit.inBlock]
 exact bR ⟨rfl,I.out.1⟩ (by simp [results,Tryz.results58,go_sem])
end Go.Proofs.YtobojnodohjiaaaGreatDoor
