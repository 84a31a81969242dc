
/- FracsReads: the law's walk. -/
import Derived.Test.YtobojnodohjiaaaGreatDoorQReads
import Derived.Test.YtobojnodohjiaaaGreatDoorPW
import Derived.Test.YtobojnodohjiaaaGreatDoorWorksQ
set_option linter.unusedVariables false
set_option linter.unusedSimpArgs false
namespace Go.Proofs.YtobojnodohjiaaaGreatDoor
open Go.RowKit
attribute [local go_sem ↓] Go.wp_at_zero Go.wp_at_succ
theorem fcode_cases (s:ByteArray):(qc4 s=0∧sz (fnum s)≤512∧rz (fnum s)≤1024)∨(qc4 s≠0∧fnum s=0):=by
 rcases qj4 (fup s) with ⟨hc,hw,ht⟩|⟨hc,hn⟩|⟨hc,hn⟩
 ·rcases Bool.eq_false_or_eq_true (ftwo s) with h2|h2
  ·rcases qj8 (fdn s) with ⟨qc,qw,qt⟩|⟨qc,qn⟩|⟨qc,qn⟩
   ·by_cases h0:pnum (fdn s)=0
    ·exact .inr ⟨by unfold qc4;simp [hc,h2,qc,h0],by unfold fnum;simp [hc,h2,qc,h0]⟩
    have e:fnum s=mkRat (inum (fup s)) (pnum (fdn s)):=by unfold fnum;simp [hc,h2,qc]
    exact .inl ⟨by unfold qc4;simp [hc,h2,qc,h0],by rw [e];exact qc3 hw qw (by decide),by rw [e];exact qk8 ht qt (by decide)⟩
   ·exact .inr ⟨by unfold qc4;simp [hc,h2,qc],by unfold fnum;simp [hc,h2,qc]⟩
   exact .inr ⟨by unfold qc4;simp [hc,h2,qc],by unfold fnum;simp [hc,h2,qc]⟩
  have e:fnum s=((inum (fup s):Int):Rat):=by unfold fnum;simp [hc,h2]
  exact .inl ⟨by unfold qc4;simp [hc,h2],by rw [e,qB3];omega,by rw [e,xx3];omega⟩
 ·exact .inr ⟨by unfold qc4;simp [hc],by unfold fnum;simp [hc]⟩
 exact .inr ⟨by unfold qc4;simp [hc],by unfold fnum;simp [hc]⟩
theorem xb0 (s:ByteArray) (z:Rat) (c:Int) (w:World) (hz:fnum s=z) (hc:qc4 s=c) (hs:s.size≤9223372036854775807) :
  Calls Tryz.prog 158 #[.string s] w fun e w'=>(∃ r1 r2:Value,e=.returned (.tuple #[.agg #[.bool (decide (z.num<0)),r1,r2],.int .i64 c])∧Rn w' r1 z.num.natAbs∧Rn w' r2 (z.den - 1))∧Gr w w':=by
 subst hz hc
 have h1:=Nat.le_trans (qH_ s) hs
 have h2:=Nat.le_trans (qH7 s) hs
 rcases qj4 (fup s) with ⟨hc,hw,hwt⟩|⟨hc,hn⟩|⟨hc,hn⟩
 ·rcases Bool.eq_false_or_eq_true (ftwo s) with ht|ht
  ·rcases qj8 (fdn s) with ⟨qc,qw,qt⟩|⟨qc,qn⟩|⟨qc,qn⟩
   ·by_cases h0:pnum (fdn s)=0
    ·have e1:qc4 s=5:=by unfold qc4;simp [hc,ht,qc,h0]
     have e2:fnum s=0:=by unfold fnum;simp [hc,ht,qc,h0]
     rw [e1,e2]
     exact xh0 s _ _ _ w hs h1 h2 (lh_ rfl) (lh_ rfl) (lh_ ht) (lh_ hc) (lh_ rfl) om (lh_ qc) (lh_ h0)
    have e1:qc4 s=0:=by unfold qc4;simp [hc,ht,qc,h0]
    have e2:mkRat (inum (fup s)) (pnum (fdn s))=fnum s:=by unfold fnum;simp [hc,ht,qc]
    rw [e1]
    exact xh1 s _ _ _ _ _ w hs h1 h2 (lh_ rfl) (lh_ rfl) (lh_ ht) (lh_ hc) (lh_ rfl) om (lh_ qc) (lh_ rfl) om om (lh_ e2)
   ·have e1:qc4 s=3:=by unfold qc4;simp [hc,ht,qc]
    have e2:fnum s=0:=by unfold fnum;simp [hc,ht,qc]
    rw [e1,e2]
    exact qW6 s _ _ _ w hs h1 h2 (lh_ rfl) (lh_ rfl) (lh_ ht) (lh_ hc) (lh_ rfl) om (lh_ qc) (lh_ qn)
   have e1:qc4 s=4:=by unfold qc4;simp [hc,ht,qc]
   have e2:fnum s=0:=by unfold fnum;simp [hc,ht,qc]
   rw [e1,e2]
   exact qW7 s _ _ _ w hs h1 h2 (lh_ rfl) (lh_ rfl) (lh_ ht) (lh_ hc) (lh_ rfl) om (lh_ qc) (lh_ qn)
  have e1:qc4 s=0:=by unfold qc4;simp [hc,ht]
  have e2:((inum (fup s):Int):Rat)=fnum s:=by unfold fnum;simp [hc,ht]
  rw [e1,← e2]
  exact xg_ s _ _ _ w hs h1 h2 (lh_ rfl) (lh_ rfl) (lh_ ht) (lh_ hc) (lh_ rfl) om
 ·have e1:qc4 s=3:=by unfold qc4;simp [hc]
  have e2:fnum s=0:=by unfold fnum;simp [hc]
  rw [e1,e2]
  exact qW4 s _ _ _ w hs h1 h2 (lh_ rfl) (lh_ rfl) (lh_ rfl) (lh_ hc) (lh_ hn)
 have e1:qc4 s=4:=by unfold qc4;simp [hc]
 have e2:fnum s=0:=by unfold fnum;simp [hc]
 rw [e1,e2]
 exact qW5 s _ _ _ w hs h1 h2 (lh_ rfl) (lh_ rfl) (lh_ rfl) (lh_ hc) (lh_ hn)
end Go.Proofs.YtobojnodohjiaaaGreatDoor

set_option maxRecDepth 100000
set_option maxHeartbeats 16000000
set_option linter.unusedVariables false
set_option linter.unusedSimpArgs false
namespace Go.Proofs.YtobojnodohjiaaaGreatDoor
open Go.RowKit
attribute [local go_sem ↓] Go.wp_at_zero Go.wp_at_succ
attribute [local go_sem ↓] eq_nat eq_nat_zero eq_int eq_frac eq_frac_zero
attribute [local go_sem] Instr.field asAgg
theorem readq_s0 (s:ByteArray) (z:Rat) (w:World) (hs:s.size≤300) (HN:Hid (fnum s=z)) (HC:Hid (qc4 s=0)) (hs1:sz z≤600) (hr1:rz z≤1100) (HT:Hid (Tab w)) :
  CB 61 #[.string s] w (.bool true):=by
 go_enter Tryz.func61,Tryz.ntmps61
 have I:=lh_ (hp0 w)
 refine kSl fun K O=>?_;go_wp2
 refine kF_ O (I.out) fun Wx0 J=>?_;clear O K
 clear I;have I:=J;clear J
 refine wp_seq ?_
 have hd1:¬ (8400<((s.size:Int))):=ok
 refine ks3_ fun K O T Y=>?_
 refine tk3_ ?_
 refine nz Y I O ?_;clear Y T I O K;intro vw1 I
 clear hd1
 refine wp_cond_false (by rfl) ?_
 refine wp_skip ?_
 show Code.wp _ _ _ _ _
 refine ks5_ fun K O T Y=>?_
 refine tk ?_
 refine ck Tryz.call152 (fun w' hw=>qg3 s z (0) _ HN.out HC.out om) ?_
 refine tk3_ ?_
 refine nlS Y I fun vw2 J=>?_
 clear Y T I
 go_wp2
 refine kF_ O ((J.out).aL (vw2.heap.size)) fun Wx3 I=>?_;clear O K
 clear J
 generalize vw2.heap.size=gx1 at *
 refine wp_seq ?_
 have hd2:¬ (300<((s.size:Int))):=ok
 refine ks3_ fun K O T Y=>?_
 refine tk3_ ?_
 refine nz Y I O ?_;clear Y T I O K;intro vw3 I
 clear hd2
 refine wp_cond_false (by rfl) ?_
 refine wp_skip ?_
 show Code.wp _ _ _ _ _
 refine kS fun K O=>?_
 have HG0:Hid (Gr vw3 vw3):=lh_ (Gr.refl _)
 refine qY5 fun T Y=>?_
 refine tk ?_
 refine ce2 Tryz.call158 HG0 (fun w' hw=>xb0 s z (0) _ HN.out HC.out om) ?_;clear HG0;intro vv2 HG0 _ ao1 nn1 cc1 ao2 nn2 cc2 RN2 RN3
 refine tk3_ ?_
 refine wpPlan_nil (Y.out _ _ ?_)
 intro vw4 hg
 simp only [puts,Act.put,lA,lB,lC,lD,lE,↓reduceIte,Nat.reduceEqDiff]
 have J:=lh_ (((I.out.gr (HG0.out.trans hg)).ar (RN2.out.gr hg)).ar (RN3.out.gr hg))
 simp only [zq1_,zq2_,zq3_,zq4_,lF,lG] at J
 clear Y T I hg HG0 RN2 RN3
 go_wp2
 refine kF_ O ((J.out).aL (vw4.heap.size)) fun Wx6 I=>?_;clear O K
 clear J
 generalize vw4.heap.size=gx4 at *
 have HB:=HPb I
 have lx1:=kc0_ I
 have lx4:=kc3_ I
 refine xv5 fun K O T Y=>?_
 refine tk2_ ?_
 refine ck Tryz.call66 (fun w' hw=>qa5 z _ _ _ om om (I.out.r 1 rfl hw) (I.out.r 2 rfl hw) (lh_ (HT.out.gr (Gr.trans HB.out hw)))) ?_
 iterate 6 refine tk ?_
 refine ck Tryz.call62 (fun w' hw=>worksq_any _ (lh_ (HT.out.gr (Gr.trans HB.out hw)))) ?_
 refine tk2_ ?_
 refine nzR Y O (fun w2 hg=>((((I.out.gr hg).er 3).er 2).er 1).er 0) ?_;clear Y T I lx1 lx4 HB O K;intro Wx7 I
 refine wp_ret ?_
 try simp only [Exit.then,Exit.inBlock]
 exact bR ⟨rfl,I.out.1⟩ (by simp [results,Tryz.results61,go_sem])
theorem readq_sc (s:ByteArray) (c:Int) (w:World) (hs:s.size≤300) (HN:Hid (fnum s=0)) (HC:Hid (qc4 s=c)) (hc:¬ c=0) (HT:Hid (Tab w)) :
  CB 61 #[.string s] w (.bool true):=by
 have hz0:sz (0:Rat)≤1:=sz_of (wl_le.2 (by decide +kernel)) (wl_le.2 (by decide +kernel))
 have hr0:rz (0:Rat)≤1:=xq5 (qe_.2 (by decide +kernel)) (qe_.2 (by decide +kernel))
 go_enter Tryz.func61,Tryz.ntmps61
 have I:=lh_ (hp0 w)
 refine kSl fun K O=>?_;go_wp2
 refine kF_ O (I.out) fun Wx0 J=>?_;clear O K
 clear I;have I:=J;clear J
 refine wp_seq ?_
 have hd1:¬ (8400<((s.size:Int))):=ok
 refine ks3_ fun K O T Y=>?_
 refine tk3_ ?_
 refine nz Y I O ?_;clear Y T I O K;intro vw1 I
 clear hd1
 refine wp_cond_false (by rfl) ?_
 refine wp_skip ?_
 show Code.wp _ _ _ _ _
 refine ks5_ fun K O T Y=>?_
 refine tk ?_
 refine ck Tryz.call152 (fun w' hw=>qg3 s (0:Rat) c _ HN.out HC.out om) ?_
 refine tk3_ ?_
 refine nlS Y I fun vw2 J=>?_
 clear Y T I
 go_wp2
 refine kF_ O ((J.out).aL (vw2.heap.size)) fun Wx3 I=>?_;clear O K
 clear J
 generalize vw2.heap.size=gx1 at *
 refine wp_seq ?_
 have hd2:¬ (300<((s.size:Int))):=ok
 refine ks3_ fun K O T Y=>?_
 refine tk3_ ?_
 refine nz Y I O ?_;clear Y T I O K;intro vw3 I
 clear hd2
 refine wp_cond_false (by rfl) ?_
 refine wp_skip ?_
 show Code.wp _ _ _ _ _
 refine kS fun K O=>?_
 have HG0:Hid (Gr vw3 vw3):=lh_ (Gr.refl _)
 refine qY5 fun T Y=>?_
 refine tk ?_
 refine ce2 Tryz.call158 HG0 (fun w' hw=>xb0 s (0:Rat) c _ HN.out HC.out om) ?_;clear HG0;intro vv2 HG0 _ ao1 nn1 cc1 ao2 nn2 cc2 RN2 RN3
 refine tk3_ ?_
 refine wpPlan_nil (Y.out _ _ ?_)
 intro vw4 hg
 simp only [puts,Act.put,lA,lB,lC,lD,lE,↓reduceIte,Nat.reduceEqDiff]
 have J:=lh_ (((I.out.gr (HG0.out.trans hg)).ar (RN2.out.gr hg)).ar (RN3.out.gr hg))
 simp only [zq1_,zq2_,zq3_,zq4_,lF,lG] at J
 clear Y T I hg HG0 RN2 RN3
 go_wp2
 refine kF_ O ((J.out).aL (vw4.heap.size)) fun Wx6 I=>?_;clear O K
 clear J
 generalize vw4.heap.size=gx4 at *
 have HB:=HPb I
 have lx1:=kc0_ I
 have lx4:=kc3_ I
 refine xv5 fun K O T Y=>?_
 refine tk2_ ?_
 refine ck Tryz.call66 (fun w' hw=>qa5 (0:Rat) _ _ _ om om (I.out.r 1 rfl hw) (I.out.r 2 rfl hw) (lh_ (HT.out.gr (Gr.trans HB.out hw)))) ?_
 iterate 6 refine tk ?_
 refine ck Tryz.call62 (fun w' hw=>worksq_any _ (lh_ (HT.out.gr (Gr.trans HB.out hw)))) ?_
 refine tk2_ ?_
 refine nzR Y O (fun w2 hg=>((((I.out.gr hg).er 3).er 2).er 1).er 0) ?_;clear Y T I lx1 lx4 HB O K;intro Wx7 I
 refine wp_ret ?_
 try simp only [Exit.then,Exit.inBlock]
 exact bR ⟨rfl,I.out.1⟩ (by simp [results,Tryz.results61,go_sem])
end Go.Proofs.YtobojnodohjiaaaGreatDoor
