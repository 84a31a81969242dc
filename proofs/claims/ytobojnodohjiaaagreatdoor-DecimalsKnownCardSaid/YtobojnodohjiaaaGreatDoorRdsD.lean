
/- DecimalsReads: the law's walk. -/
import Derived.Test.YtobojnodohjiaaaGreatDoorDecW
import Derived.Test.YtobojnodohjiaaaGreatDoorRdP
import Derived.Test.YtobojnodohjiaaaGreatDoorFieldP
set_option maxRecDepth 100000
set_option maxHeartbeats 16000000
set_option linter.unusedVariables false
set_option linter.unusedSimpArgs false
namespace Go.Proofs.YtobojnodohjiaaaGreatDoor
open Go.RowKit
attribute [local go_sem ↓] Go.wp_at_zero Go.wp_at_succ
attribute [local go_sem ↓] eq_nat eq_nat_zero eq_int qh7 qd0
attribute [local go_sem] Instr.field asAgg
theorem qO4 {s:ByteArray} (h:s.size≤101):wl (pnum s)≤130:=by
 unfold pnum
 split
 ·rename_i g
  obtain ⟨_,g⟩:=g
  have h1:=xd3 s 0 s.size (fun i hi=>by rw [Nat.zero_add];exact (g.2.2 i hi).2)
  exact Nat.le_trans (qa6 (Nat.le_of_lt (Nat.lt_of_lt_of_le h1 (Nat.pow_le_pow_right (by decide) h)))) (qa2.2 (by decide +kernel))
 exact Nat.le_trans (qc7 (by decide)) (by decide)
theorem xo0 (s:ByteArray) (w:World) (hs9:s.size≤9223372036854775807) (hs:4096<s.size) (HN:Hid (dnum s=0)) (HC:Hid (qg0 s=3)) (HT:Hid (Tab w)) :
  CB 13 #[.string s] w (.bool true):=by
 go_enter Tryz.func13,Tryz.ntmps13
 have I:=lh_ (hp0 w)
 refine kSl fun K O=>?_;go_wp2
 refine kF_ O (I.out) fun Wx0 J=>?_;clear O K
 clear I;have I:=J;clear J
 refine wp_seq ?_
 have hd1:4096<((s.size:Int)):=ok
 refine ks3_ fun K O T Y=>?_
 refine tk3_ ?_
 refine nz Y I O ?_;clear Y T I O K;intro vw1 I
 clear hd1
 refine wp_cond_true (by rfl) ?_
 refine ks5_ fun K O T Y=>?_
 refine tk ?_
 refine ck Tryz.call63 (fun w' hw=>qE2 s (0:Rat) (3) _ HN.out HC.out om) ?_
 refine tk3_ ?_
 refine nlS Y I fun vw2 J=>?_
 clear Y T I
 go_wp2
 refine kF_ O ((J.out).aL (vw2.heap.size)) fun Wx2 I=>?_;clear O K
 clear J
 generalize vw2.heap.size=gx1 at *
 have HB:=HPb I
 have lx1:=kc0_ I
 refine qh4 fun K O T Y=>?_
 iterate 8 refine tk ?_
 refine ck Tryz.call64 (fun w' hw=>worksd_any _ (lh_ (HT.out.gr (Gr.trans HB.out hw)))) ?_
 refine tk2_ ?_
 refine nzR Y O (fun w2 hg=>(I.out.gr hg).er 0) ?_;clear Y T I lx1 HB O K;intro Wx3 I
 refine wp_ret ?_
 try simp only [Exit.then,Exit.inBlock]
 exact bR ⟨rfl,I.out.1⟩ (by simp [results,Tryz.results13,go_sem])
theorem xo1 (s:ByteArray) (w:World) (hs:100<s.size) (hs2:s.size≤4096) (HT:Hid (Tab w)) :
  CB 13 #[.string s] w (.bool true):=by
 go_enter Tryz.func13,Tryz.ntmps13
 have I:=lh_ (hp0 w)
 refine kSl fun K O=>?_;go_wp2
 refine kF_ O (I.out) fun Wx0 J=>?_;clear O K
 clear I;have I:=J;clear J
 refine wp_seq ?_
 have hd1:¬ (4096<((s.size:Int))):=ok
 refine ks3_ fun K O T Y=>?_
 refine tk3_ ?_
 refine nz Y I O ?_;clear Y T I O K;intro vw1 I
 clear hd1
 refine wp_cond_false (by rfl) ?_
 refine wp_skip ?_
 show Code.wp _ _ _ _ _
 refine wp_seq ?_
 have hd2:100<((s.size:Int)):=ok
 refine ks3_ fun K O T Y=>?_
 refine tk3_ ?_
 refine nz Y I O ?_;clear Y T I O K;intro vw2 I
 clear hd2
 refine wp_cond_true (by rfl) ?_
 have HB:=HPb I
 refine ks2_ fun K O T Y=>?_
 refine ck Tryz.call64 (fun w' hw=>worksd_any _ (lh_ (HT.out.gr (Gr.trans HB.out hw)))) ?_
 refine tk ?_
 refine nz Y I O ?_;clear Y T I HB O K;intro vw3 I
 refine wp_ret ?_
 try simp only [Exit.then,Exit.inBlock]
 exact bR ⟨rfl,I.out.1⟩ (by simp [results,Tryz.results13,go_sem])
theorem xz2 (s:ByteArray) (z:Rat) (c:Int) (w:World) (hs:s.size≤100) (HN:Hid (dnum s=z)) (HC:Hid (qg0 s=c)) (hsz:sz z≤300) (hrz:rz z≤1000) (HT:Hid (Tab w)) :
  CB 13 #[.string s] w (.bool true):=by
 go_enter Tryz.func13,Tryz.ntmps13
 have I:=lh_ (hp0 w)
 refine kSl fun K O=>?_;go_wp2
 refine kF_ O (I.out) fun Wx0 J=>?_;clear O K
 clear I;have I:=J;clear J
 refine wp_seq ?_
 have hd1:¬ (4096<((s.size:Int))):=ok
 refine ks3_ fun K O T Y=>?_
 refine tk3_ ?_
 refine nz Y I O ?_;clear Y T I O K;intro vw1 I
 clear hd1
 refine wp_cond_false (by rfl) ?_
 refine wp_skip ?_
 show Code.wp _ _ _ _ _
 refine wp_seq ?_
 have hd2:¬ (100<((s.size:Int))):=ok
 refine ks3_ fun K O T Y=>?_
 refine tk3_ ?_
 refine nz Y I O ?_;clear Y T I O K;intro vw2 I
 clear hd2
 refine wp_cond_false (by rfl) ?_
 refine wp_skip ?_
 show Code.wp _ _ _ _ _
 refine ks5_ fun K O T Y=>?_
 refine tk ?_
 refine ck Tryz.call63 (fun w' hw=>qE2 s z c _ HN.out HC.out om) ?_
 refine tk3_ ?_
 refine nlS Y I fun vw3 J=>?_
 clear Y T I
 go_wp2
 refine kF_ O ((J.out).aL (vw3.heap.size)) fun Wx6 I=>?_;clear O K
 clear J
 generalize vw3.heap.size=gx1 at *
 refine kS fun K O=>?_
 have HG0:Hid (Gr Wx6 Wx6):=lh_ (Gr.refl _)
 refine xB2 fun T Y=>?_
 refine tk ?_
 refine ce2 Tryz.call65 HG0 (fun w' hw=>xp0 s z c _ om HN.out HC.out) ?_;clear HG0;intro vv2 HG0 _ ao1 nn1 cc1 ao2 nn2 cc2 RN2 RN3
 refine tk3_ ?_
 refine qa0 (Y.out _ _ ?_)
 intro vw4 hg
 simp only [puts,Act.put,lA,lB,lC,lD,lE,↓reduceIte,Nat.reduceEqDiff]
 have J:=lh_ (((I.out.gr (HG0.out.trans hg)).ar (RN2.out.gr hg)).ar (RN3.out.gr hg))
 simp only [zq1_,zq2_,zq3_,zq4_,lF,lG] at J
 clear Y T I hg HG0 RN2 RN3
 go_wp2
 refine kF_ O ((J.out).aL (vw4.heap.size)) fun Wx7 I=>?_;clear O K
 clear J
 generalize vw4.heap.size=gx4 at *
 have HB:=HPb I
 have lx1:=kc0_ I
 have lx4:=kc3_ I
 refine qw4 fun K O T Y=>?_
 refine tk2_ ?_
 refine ck Tryz.call66 (fun w' hw=>qp7 z _ _ _ om om (I.out.r 1 rfl hw) (I.out.r 2 rfl hw) (lh_ (HT.out.gr (Gr.trans HB.out hw)))) ?_
 iterate 6 refine tk ?_
 refine ck Tryz.call64 (fun w' hw=>worksd_any _ (lh_ (HT.out.gr (Gr.trans HB.out hw)))) ?_
 refine tk2_ ?_
 refine nzR Y O (fun w2 hg=>((((I.out.gr hg).er 3).er 2).er 1).er 0) ?_;clear Y T I lx1 lx4 HB O K;intro Wx8 I
 refine wp_ret ?_
 try simp only [Exit.then,Exit.inBlock]
 exact bR ⟨rfl,I.out.1⟩ (by simp [results,Tryz.results13,go_sem])
theorem xB_ {s:ByteArray} (hs:s.size≤100):sz (dnum s)≤300∧rz (dnum s)≤1000:=by
 have h1:=qj_ s
 have h3:=qp0 (idig s)
 have hB:(dB s).size≤100:=by unfold dB;omega
 have e1:wl (dK s)≤290:=by
  unfold dK
  have a1:wl (pnum (dA s))≤130:=qO4 (by unfold dA;have:=qp4 (idig s);omega)
  have a2:wl (10 ^ (dB s).size)≤12:=qi3 om
  have a3:wl (pnum (dO s))≤130:=qO4 (by unfold dO;rw [ql7];have:(⟨#[49]⟩:ByteArray).size=1:=rfl;omega)
  have a4:=qg8 (pnum (dA s)) (10 ^ (dB s).size)
  have a5:wl (pnum (dO s) - 10 ^ (dB s).size)≤130:=Nat.le_trans (qa6 (Nat.sub_le _ _)) a3
  have a6:=qt6 (pnum (dA s)*10 ^ (dB s).size) (pnum (dO s) - 10 ^ (dB s).size)
  omega
 have e2:Int.natAbs (dZ s)=dK s:=by unfold dZ;split <;> omega
 have e3:wl (10 ^ (dB s).size)≤12:=qi3 om
 unfold dnum
 split
 ·refine ⟨qe1 (by rw [e2];omega) om (by decide),qm9 ?_ ?_ (by decide)⟩
  ·rw [e2];have:=qD2 (dK s);omega
  have:=qD2 (10 ^ (dB s).size);omega
 exact ⟨Nat.le_trans (qc9 (qa2.2 (by decide +kernel)) (qa2.2 (by decide +kernel)):sz (0:Rat)≤1) (by decide),Nat.le_trans (qo3 (qc0.2 (by decide +kernel)) (qc0.2 (by decide +kernel)):rz (0:Rat)≤1) (by decide)⟩
theorem readsd_law (s:ByteArray) (w:World) (hs:s.size≤9223372036854775807) (HT:Hid (Tab w)) :
  CB 13 #[.string s] w (.bool true):=by
 by_cases h1:4096<s.size
 ·have e1:qg0 s=3:=by unfold qg0;rw [if_pos h1]
  have e2:dnum s=0:=by unfold dnum;rw [e1,if_neg (by decide)]
  exact xo0 s w hs h1 (lh_ e2) (lh_ e1) HT
 by_cases h2:100<s.size
 ·exact xo1 s w h2 om HT
 obtain ⟨a,b⟩:=xB_ (show s.size≤100 by omega)
 exact xz2 s _ _ w om (lh_ rfl) (lh_ rfl) a b HT
end Go.Proofs.YtobojnodohjiaaaGreatDoor
