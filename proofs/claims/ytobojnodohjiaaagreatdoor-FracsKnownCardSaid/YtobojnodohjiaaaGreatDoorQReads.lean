
/- gussetref03.Reads. -/
import Derived.Test.YtobojnodohjiaaaGreatDoorPW
import Derived.Test.YtobojnodohjiaaaGreatDoorPT
import Derived.Test.YtobojnodohjiaaaGreatDoorRefParse2
import Derived.Test.YtobojnodohjiaaaGreatDoorParseZ2
import Derived.Test.YtobojnodohjiaaaGreatDoorHp
set_option maxRecDepth 100000
set_option maxHeartbeats 16000000
set_option linter.unusedVariables false
set_option linter.unusedSimpArgs false
namespace Go.Proofs.YtobojnodohjiaaaGreatDoor
open Go.RowKit
attribute [local go_sem ↓] Go.wp_at_zero Go.wp_at_succ
attribute [local go_sem ↓] eq_nat eq_nat_zero eq_int
def qf0 (s:ByteArray) (j c:Nat):Prop:=j≤c∧c≤s.size∧(∀ p,j≤p→p<c→byt s p≠47)∧(c<s.size→byt s c=47)
theorem qC7 (s:ByteArray) (i:Nat) (h:i<s.size):s.data.toList[i]?=some 47 ↔ byt s i=47:=by
 rw [List.getElem?_eq_getElem (by simpa using h)]
 rw [qk1 s i h]
 constructor
 ·intro e
  injection e with e
  rw [e];rfl
 intro e
 congr 1
 exact UInt8.toNat_inj.1 e
theorem xc8 (s:ByteArray) (c:Nat) (h:qf0 s 0 c):(c<s.size∧fi s=(c:Int))∨(c=s.size∧fi s = -1):=by
 obtain ⟨_,h2,h3,h4⟩:=h
 rcases qH8 s with hf|⟨i,hf,hi⟩
 ·right
  refine ⟨?_,hf⟩
  rcases Nat.lt_or_ge c s.size with hc|hc
  ·exact absurd ((qC7 s c hc).2 (h4 hc)) (Lib.indexByte_none hf c)
  omega
 left
 obtain ⟨e1,e2⟩:=Lib.indexByte_some hf
 have hbi:=(qC7 s i hi).1 e1
 have hci:c=i:=by
  rcases Nat.lt_trichotomy c i with h|h|h
  ·exact absurd ((qC7 s c om).2 (h4 om)) (e2 c h)
  ·exact h
  exact absurd hbi (h3 i (Nat.zero_le _) h)
 subst hci
 exact ⟨hi,hf⟩
theorem qh2 {s up dn:ByteArray} {c:Nat} {tw:Bool} (h:qf0 s 0 c) (h1:fup s=up) (h2:fdn s=dn) (h3:ftwo s=tw):Hid (s.extract 0 c=up)∧((tw=true∧c<s.size∧Hid (s.extract (c+1) s.size=dn))∨(tw=false∧c=s.size)):=by
 rcases xc8 s c h with ⟨hc,hf⟩|⟨hc,hf⟩
 ·have e1:fup s=s.extract 0 c:=by unfold fup;rw [if_pos om,hf];rfl
  have e2:fdn s=s.extract (c+1) s.size:=by unfold fdn;rw [if_pos om,hf];rfl
  have e3:ftwo s=true:=decide_eq_true om
  exact ⟨lh_ (e1.symm.trans h1),.inl ⟨h3.symm.trans e3,hc,lh_ (e2.symm.trans h2)⟩⟩
 have e1:fup s=s:=by unfold fup;rw [if_neg om]
 have e3:ftwo s=false:=decide_eq_false om
 refine ⟨lh_ ?_,.inr ⟨h3.symm.trans e3,hc⟩⟩
 rw [← h1,e1,hc]
 simp
theorem qW4 (s up dn:ByteArray) (tw:Bool) (w:World) (hs:s.size≤9223372036854775807) (hup:up.size≤9223372036854775807) (hdn:dn.size≤9223372036854775807) (HUP:Hid (fup s=up)) (HDN:Hid (fdn s=dn)) (HTW:Hid (ftwo s=tw)) (HPC:Hid (qc0 up=3)) (HPN:Hid (inum up=0))  :
  Calls Tryz.prog 158 #[.string s] w fun e w'=>(∃ r1 r2:Value,e=.returned (.tuple #[.agg #[.bool (decide (((0:Rat)).num<0)),r1,r2],.int .i64 3])∧Rn w' r1 (Int.natAbs (((0:Rat)).num))∧Rn w' r2 (((0:Rat)).den - 1))∧Gr w w':=by
 obtain ⟨W0,HW⟩:=ex_ (w.alloc (.cells #[.bool false,.slice none 0 0,.slice none 0 0] 47))
 have HF0:Hid (HP w W0 [Sum.inl (w.heap.size,47,#[.bool false,.slice none 0 0,.slice none 0 0])]):=lh_ qG8
 go_enter Tryz.func158,Tryz.ntmps158
 go_wp2_with fail
 rw [HW.out]
 go_loopg [4,5] s.size (fun k cut at_ wr=>∃ c:Nat,cut=.int .i64 (c:Int)∧at_=.int .i64 ((k:Int) - 1)∧k≤s.size∧Hid (qf0 s k c)∧Hid (wr=W0))
 case atStart=>exact ⟨s.size,rfl,rfl,Nat.le_refl _,lh_ ⟨Nat.le_refl _,by omega,fun p h1 h2=>by omega,fun h=>by omega⟩,lh_ rfl⟩
 case round =>
  rename_i K1 hK1 J_ K_ h1_ h0_
  obtain ⟨c,rfl,rfl,hk,HC,HWW⟩:=hrel
  have ew:W0=wr:=HWW.out.symm
  subst ew
  by_cases h0:gk=0
  ·subst h0
   have hcs:=HC.out.2.1
   obtain ⟨HSL,HX⟩:=qh2 HC.out HUP.out HDN.out HTW.out
   have I:=HF0
   have hm1:((0:Nat):Int) - 1 = -1:=rfl
   rw [hm1]
   clear HC HWW HW HF0 hk hm1
   refine wp_seq ?_
   refine ks2_ fun K O T Y=>?_
   refine tk2_ ?_
   refine nz Y I O ?_;clear Y T I O K;intro vw1 I
   refine wp_cond_false (by rfl) ?_
   refine wp_exit ?_
   try simp only [Exit.then,Exit.inBlock]
   refine hK1 _ _ ?_
   clear h0_ h1_ K_ J_ hK1
   show Code.wp _ _ _ _ _
   have hsl1:s.extract 0 c=up:=HSL.out
   have hcl1:(c:Int)≤(s.size:Int):=by omega
   refine kS fun K O=>?_
   have HG0:Hid (Gr vw1 vw1):=lh_ (Gr.refl _)
   refine qm0 fun T Y=>?_
   refine tk3_ ?_
   refine ce1 Tryz.call233 HG0 (fun w' hw=>qh8 up (0) 3 _ HPN.out HPC.out om) ?_;clear HG0;intro vv2 HG0 _ ao1 nn1 cc1 RN2
   refine tk3_ ?_
   refine wpPlan_nil (Y.out _ _ ?_)
   intro vw2 hg
   simp only [puts,Act.put,lA,lB,lC,lD,lE,↓reduceIte,Nat.reduceEqDiff]
   have J:=lh_ ((I.out.gr (HG0.out.trans hg)).ar (RN2.out.gr hg))
   simp only [zq1_,zq2_,zq3_,zq4_,lF,lG] at J
   clear Y T I hg HG0 RN2
   go_wp2
   refine kF_ O ((J.out).aL (vw2.heap.size)) fun Wx7 I=>?_;clear O K
   clear J
   generalize vw2.heap.size=gx3 at *
   clear hsl1 hcl1
   refine wp_seq ?_
   refine ks2_ fun K O T Y=>?_
   refine tk2_ ?_
   refine nz Y I O ?_;clear Y T I O K;intro vw3 I
   refine wp_cond_true (by rfl) ?_
   refine ks2_ fun K O T Y=>?_
   refine tk2_ ?_
   refine nlS Y I fun vw4 J=>?_
   clear Y T I
   have lx0:=kc0_ J;have fx0:=kf0_ J
   have r0:=Gr.refl vw4
   go_wp2
   refine kO O ?_;clear O K
   clear r0 lx0 fx0
   refine fH (((J.out).put2 0 0 rfl).put 0 2 _ rfl) fun Wx9 I=>?_
   clear J
   refine wp_ret ?_
   try simp only [Exit.then,Exit.inBlock]
   have lx0:=kc0_ I
   have r0:=Gr.refl Wx9
   exact bR ⟨⟨.slice none 0 0,.slice none 0 0,rfl,xa7,xa8⟩,I.out.1⟩ qP4
  obtain ⟨k,rfl⟩:∃ k,gk=k+1:=⟨gk - 1,by omega⟩
  have hj2:((k+1:Nat):Int) - 1=(k:Int):=by omega
  rw [hj2]
  have hlt:k<s.size:=by omega
  have hlt2:(k:Int)<(s.size:Int):=by omega
  have hcs:=HC.out.2.1
  obtain ⟨y,hy⟩:∃ y,(s[k]'hlt).toNat=y:=⟨_,rfl⟩
  have hyb:byt s k=y:=by rw [← hy,qd_ hlt]
  have HYB:=lh_ hyb
  clear hyb
  by_cases hb:y=47
  ·subst hb
   go_wp2_with fail
   go_roundg k
   case measure=>omega
   case rel=>exact ⟨k,rfl,by go_num,by omega,lh_ ⟨Nat.le_refl _,by omega,fun p h1 h2=>by omega,fun _=>HYB.out⟩,lh_ rfl⟩
  have hb2:¬ (y:Int)=47:=by omega
  go_wp2_with fail
  go_roundg k
  case measure=>omega
  case rel=>exact ⟨c,rfl,by go_num,by omega,lh_ ⟨by have:=HC.out.1;omega,HC.out.2.1,fun p h1 h2=>by
   by_cases e:p=k
   ·subst e;rw [HYB.out];exact hb
   exact HC.out.2.2.1 p om h2,HC.out.2.2.2⟩,lh_ rfl⟩
theorem qW5 (s up dn:ByteArray) (tw:Bool) (w:World) (hs:s.size≤9223372036854775807) (hup:up.size≤9223372036854775807) (hdn:dn.size≤9223372036854775807) (HUP:Hid (fup s=up)) (HDN:Hid (fdn s=dn)) (HTW:Hid (ftwo s=tw)) (HPC:Hid (qc0 up=4)) (HPN:Hid (inum up=0))  :
  Calls Tryz.prog 158 #[.string s] w fun e w'=>(∃ r1 r2:Value,e=.returned (.tuple #[.agg #[.bool (decide (((0:Rat)).num<0)),r1,r2],.int .i64 4])∧Rn w' r1 (Int.natAbs (((0:Rat)).num))∧Rn w' r2 (((0:Rat)).den - 1))∧Gr w w':=by
 obtain ⟨W0,HW⟩:=ex_ (w.alloc (.cells #[.bool false,.slice none 0 0,.slice none 0 0] 47))
 have HF0:Hid (HP w W0 [Sum.inl (w.heap.size,47,#[.bool false,.slice none 0 0,.slice none 0 0])]):=lh_ qG8
 go_enter Tryz.func158,Tryz.ntmps158
 go_wp2_with fail
 rw [HW.out]
 go_loopg [4,5] s.size (fun k cut at_ wr=>∃ c:Nat,cut=.int .i64 (c:Int)∧at_=.int .i64 ((k:Int) - 1)∧k≤s.size∧Hid (qf0 s k c)∧Hid (wr=W0))
 case atStart=>exact ⟨s.size,rfl,rfl,Nat.le_refl _,lh_ ⟨Nat.le_refl _,by omega,fun p h1 h2=>by omega,fun h=>by omega⟩,lh_ rfl⟩
 case round =>
  rename_i K1 hK1 J_ K_ h1_ h0_
  obtain ⟨c,rfl,rfl,hk,HC,HWW⟩:=hrel
  have ew:W0=wr:=HWW.out.symm
  subst ew
  by_cases h0:gk=0
  ·subst h0
   have hcs:=HC.out.2.1
   obtain ⟨HSL,HX⟩:=qh2 HC.out HUP.out HDN.out HTW.out
   have I:=HF0
   have hm1:((0:Nat):Int) - 1 = -1:=rfl
   rw [hm1]
   clear HC HWW HW HF0 hk hm1
   refine wp_seq ?_
   refine ks2_ fun K O T Y=>?_
   refine tk2_ ?_
   refine nz Y I O ?_;clear Y T I O K;intro vw1 I
   refine wp_cond_false (by rfl) ?_
   refine wp_exit ?_
   try simp only [Exit.then,Exit.inBlock]
   refine hK1 _ _ ?_
   clear h0_ h1_ K_ J_ hK1
   show Code.wp _ _ _ _ _
   have hsl1:s.extract 0 c=up:=HSL.out
   have hcl1:(c:Int)≤(s.size:Int):=by omega
   refine kS fun K O=>?_
   have HG0:Hid (Gr vw1 vw1):=lh_ (Gr.refl _)
   refine qm0 fun T Y=>?_
   refine tk3_ ?_
   refine ce1 Tryz.call233 HG0 (fun w' hw=>qh8 up (0) 4 _ HPN.out HPC.out om) ?_;clear HG0;intro vv2 HG0 _ ao1 nn1 cc1 RN2
   refine tk3_ ?_
   refine wpPlan_nil (Y.out _ _ ?_)
   intro vw2 hg
   simp only [puts,Act.put,lA,lB,lC,lD,lE,↓reduceIte,Nat.reduceEqDiff]
   have J:=lh_ ((I.out.gr (HG0.out.trans hg)).ar (RN2.out.gr hg))
   simp only [zq1_,zq2_,zq3_,zq4_,lF,lG] at J
   clear Y T I hg HG0 RN2
   go_wp2
   refine kF_ O ((J.out).aL (vw2.heap.size)) fun Wx7 I=>?_;clear O K
   clear J
   generalize vw2.heap.size=gx3 at *
   clear hsl1 hcl1
   refine wp_seq ?_
   refine ks2_ fun K O T Y=>?_
   refine tk2_ ?_
   refine nz Y I O ?_;clear Y T I O K;intro vw3 I
   refine wp_cond_true (by rfl) ?_
   refine ks2_ fun K O T Y=>?_
   refine tk2_ ?_
   refine nlS Y I fun vw4 J=>?_
   clear Y T I
   have lx0:=kc0_ J;have fx0:=kf0_ J
   have r0:=Gr.refl vw4
   go_wp2
   refine kO O ?_;clear O K
   clear r0 lx0 fx0
   refine fH (((J.out).put2 0 0 rfl).put 0 2 _ rfl) fun Wx9 I=>?_
   clear J
   refine wp_ret ?_
   try simp only [Exit.then,Exit.inBlock]
   have lx0:=kc0_ I
   have r0:=Gr.refl Wx9
   exact bR ⟨⟨.slice none 0 0,.slice none 0 0,rfl,xa7,xa8⟩,I.out.1⟩ qP4
  obtain ⟨k,rfl⟩:∃ k,gk=k+1:=⟨gk - 1,by omega⟩
  have hj2:((k+1:Nat):Int) - 1=(k:Int):=by omega
  rw [hj2]
  have hlt:k<s.size:=by omega
  have hlt2:(k:Int)<(s.size:Int):=by omega
  have hcs:=HC.out.2.1
  obtain ⟨y,hy⟩:∃ y,(s[k]'hlt).toNat=y:=⟨_,rfl⟩
  have hyb:byt s k=y:=by rw [← hy,qd_ hlt]
  have HYB:=lh_ hyb
  clear hyb
  by_cases hb:y=47
  ·subst hb
   go_wp2_with fail
   go_roundg k
   case measure=>omega
   case rel=>exact ⟨k,rfl,by go_num,by omega,lh_ ⟨Nat.le_refl _,by omega,fun p h1 h2=>by omega,fun _=>HYB.out⟩,lh_ rfl⟩
  have hb2:¬ (y:Int)=47:=by omega
  go_wp2_with fail
  go_roundg k
  case measure=>omega
  case rel=>exact ⟨c,rfl,by go_num,by omega,lh_ ⟨by have:=HC.out.1;omega,HC.out.2.1,fun p h1 h2=>by
   by_cases e:p=k
   ·subst e;rw [HYB.out];exact hb
   exact HC.out.2.2.1 p om h2,HC.out.2.2.2⟩,lh_ rfl⟩
theorem xg_ (s up dn:ByteArray) (a:Int) (w:World) (hs:s.size≤9223372036854775807) (hup:up.size≤9223372036854775807) (hdn:dn.size≤9223372036854775807) (HUP:Hid (fup s=up)) (HDN:Hid (fdn s=dn)) (HTW:Hid (ftwo s=false)) (HPC:Hid (qc0 up=0)) (HPN:Hid (inum up=a)) (hwa:tw (Int.natAbs a)≤1100)  :
  Calls Tryz.prog 158 #[.string s] w fun e w'=>(∃ r1 r2:Value,e=.returned (.tuple #[.agg #[.bool (decide ((((a:Int):Rat)).num<0)),r1,r2],.int .i64 0])∧Rn w' r1 (Int.natAbs ((((a:Int):Rat)).num))∧Rn w' r2 ((((a:Int):Rat)).den - 1))∧Gr w w':=by
 obtain ⟨W0,HW⟩:=ex_ (w.alloc (.cells #[.bool false,.slice none 0 0,.slice none 0 0] 47))
 have HF0:Hid (HP w W0 [Sum.inl (w.heap.size,47,#[.bool false,.slice none 0 0,.slice none 0 0])]):=lh_ qG8
 go_enter Tryz.func158,Tryz.ntmps158
 go_wp2_with fail
 rw [HW.out]
 go_loopg [4,5] s.size (fun k cut at_ wr=>∃ c:Nat,cut=.int .i64 (c:Int)∧at_=.int .i64 ((k:Int) - 1)∧k≤s.size∧Hid (qf0 s k c)∧Hid (wr=W0))
 case atStart=>exact ⟨s.size,rfl,rfl,Nat.le_refl _,lh_ ⟨Nat.le_refl _,by omega,fun p h1 h2=>by omega,fun h=>by omega⟩,lh_ rfl⟩
 case round =>
  rename_i K1 hK1 J_ K_ h1_ h0_
  obtain ⟨c,rfl,rfl,hk,HC,HWW⟩:=hrel
  have ew:W0=wr:=HWW.out.symm
  subst ew
  by_cases h0:gk=0
  ·subst h0
   have hcs:=HC.out.2.1
   obtain ⟨HSL,HX⟩:=qh2 HC.out HUP.out HDN.out HTW.out
   have I:=HF0
   have hm1:((0:Nat):Int) - 1 = -1:=rfl
   rw [hm1]
   clear HC HWW HW HF0 hk hm1
   rcases HX with ⟨hc,_⟩|⟨_,hc⟩
   case inl=>exact absurd hc (by decide)
   have HCS:=lh_ hc
   clear hc
   refine wp_seq ?_
   refine ks2_ fun K O T Y=>?_
   refine tk2_ ?_
   refine nz Y I O ?_;clear Y T I O K;intro vw1 I
   refine wp_cond_false (by rfl) ?_
   refine wp_exit ?_
   try simp only [Exit.then,Exit.inBlock]
   refine hK1 _ _ ?_
   clear h0_ h1_ K_ J_ hK1
   show Code.wp _ _ _ _ _
   have hsl1:s.extract 0 c=up:=HSL.out
   have hcl1:(c:Int)≤(s.size:Int):=by omega
   refine kS fun K O=>?_
   have HG0:Hid (Gr vw1 vw1):=lh_ (Gr.refl _)
   refine qm0 fun T Y=>?_
   refine tk3_ ?_
   refine ce1 Tryz.call233 HG0 (fun w' hw=>qh8 up a 0 _ HPN.out HPC.out om) ?_;clear HG0;intro vv2 HG0 _ ao1 nn1 cc1 RN2
   refine tk3_ ?_
   refine wpPlan_nil (Y.out _ _ ?_)
   intro vw2 hg
   simp only [puts,Act.put,lA,lB,lC,lD,lE,↓reduceIte,Nat.reduceEqDiff]
   have J:=lh_ ((I.out.gr (HG0.out.trans hg)).ar (RN2.out.gr hg))
   simp only [zq1_,zq2_,zq3_,zq4_,lF,lG] at J
   clear Y T I hg HG0 RN2
   go_wp2
   refine kF_ O ((J.out).aL (vw2.heap.size)) fun Wx7 I=>?_;clear O K
   clear J
   generalize vw2.heap.size=gx3 at *
   clear hsl1 hcl1
   refine wp_seq ?_
   refine ks2_ fun K O T Y=>?_
   refine tk2_ ?_
   refine nz Y I O ?_;clear Y T I O K;intro vw3 I
   refine wp_cond_false (by rfl) ?_
   refine wp_skip ?_
   show Code.wp _ _ _ _ _
   refine wp_seq ?_
   have heq:((c:Int) == (s.size:Int))=true:=by have h9:(c:Int)=(s.size:Int):=(by have e9:=HCS.out;omega);simpa using h9
   refine qb2 fun K O T Y=>?_
   iterate 4 refine tk ?_
   refine nz Y I O ?_;clear Y T I O K;intro vw4 I
   clear heq
   refine wp_cond_true (by rfl) ?_
   have lx3:=kc2_ I
   refine ks2_ fun K O T Y=>?_
   refine tk2_ ?_
   refine nlS Y I fun vw5 J=>?_
   clear Y T I lx3
   have lx0:=kc0_ J;have fx0:=kf0_ J
   have r0:=Gr.refl vw5
   go_wp2
   refine kO O ?_;clear O K
   clear r0 lx0 fx0
   refine fH (((J.out).put2 0 0 rfl).put 0 2 _ rfl) fun Wx11 I=>?_
   clear J
   refine wp_ret ?_
   try simp only [Exit.then,Exit.inBlock]
   have lx0:=kc0_ I
   have r0:=Gr.refl Wx11
   exact bodyPost_ret (v:=.tuple #[(.agg #[.bool (decide ((((a:Int):Rat)).num<0)),(.slice ao1 nn1 cc1),.slice none 0 0]),.int .i64 0]) (by simp [results,Tryz.results158,go_sem,lx0 _ r0] <;> rfl) rfl ⟨⟨(.slice ao1 nn1 cc1),.slice none 0 0,rfl,(by rw [show Int.natAbs ((((a:Int):Rat)).num)=Int.natAbs a from rfl];exact (I.out.rn 1 rfl)),(by rw [show (((a:Int):Rat)).den - 1=0 from rfl];exact Rn.zero _)⟩,I.out.1⟩
  obtain ⟨k,rfl⟩:∃ k,gk=k+1:=⟨gk - 1,by omega⟩
  have hj2:((k+1:Nat):Int) - 1=(k:Int):=by omega
  rw [hj2]
  have hlt:k<s.size:=by omega
  have hlt2:(k:Int)<(s.size:Int):=by omega
  have hcs:=HC.out.2.1
  obtain ⟨y,hy⟩:∃ y,(s[k]'hlt).toNat=y:=⟨_,rfl⟩
  have hyb:byt s k=y:=by rw [← hy,qd_ hlt]
  have HYB:=lh_ hyb
  clear hyb
  by_cases hb:y=47
  ·subst hb
   go_wp2_with fail
   go_roundg k
   case measure=>omega
   case rel=>exact ⟨k,rfl,by go_num,by omega,lh_ ⟨Nat.le_refl _,by omega,fun p h1 h2=>by omega,fun _=>HYB.out⟩,lh_ rfl⟩
  have hb2:¬ (y:Int)=47:=by omega
  go_wp2_with fail
  go_roundg k
  case measure=>omega
  case rel=>exact ⟨c,rfl,by go_num,by omega,lh_ ⟨by have:=HC.out.1;omega,HC.out.2.1,fun p h1 h2=>by
   by_cases e:p=k
   ·subst e;rw [HYB.out];exact hb
   exact HC.out.2.2.1 p om h2,HC.out.2.2.2⟩,lh_ rfl⟩
theorem qW6 (s up dn:ByteArray) (a:Int) (w:World) (hs:s.size≤9223372036854775807) (hup:up.size≤9223372036854775807) (hdn:dn.size≤9223372036854775807) (HUP:Hid (fup s=up)) (HDN:Hid (fdn s=dn)) (HTW:Hid (ftwo s=true)) (HPC:Hid (qc0 up=0)) (HPN:Hid (inum up=a)) (hwa:tw (Int.natAbs a)≤1100) (HQC:Hid (qb8 dn=3)) (HQN:Hid (pnum dn=0))  :
  Calls Tryz.prog 158 #[.string s] w fun e w'=>(∃ r1 r2:Value,e=.returned (.tuple #[.agg #[.bool (decide (((0:Rat)).num<0)),r1,r2],.int .i64 3])∧Rn w' r1 (Int.natAbs (((0:Rat)).num))∧Rn w' r2 (((0:Rat)).den - 1))∧Gr w w':=by
 obtain ⟨W0,HW⟩:=ex_ (w.alloc (.cells #[.bool false,.slice none 0 0,.slice none 0 0] 47))
 have HF0:Hid (HP w W0 [Sum.inl (w.heap.size,47,#[.bool false,.slice none 0 0,.slice none 0 0])]):=lh_ qG8
 go_enter Tryz.func158,Tryz.ntmps158
 go_wp2_with fail
 rw [HW.out]
 go_loopg [4,5] s.size (fun k cut at_ wr=>∃ c:Nat,cut=.int .i64 (c:Int)∧at_=.int .i64 ((k:Int) - 1)∧k≤s.size∧Hid (qf0 s k c)∧Hid (wr=W0))
 case atStart=>exact ⟨s.size,rfl,rfl,Nat.le_refl _,lh_ ⟨Nat.le_refl _,by omega,fun p h1 h2=>by omega,fun h=>by omega⟩,lh_ rfl⟩
 case round =>
  rename_i K1 hK1 J_ K_ h1_ h0_
  obtain ⟨c,rfl,rfl,hk,HC,HWW⟩:=hrel
  have ew:W0=wr:=HWW.out.symm
  subst ew
  by_cases h0:gk=0
  ·subst h0
   have hcs:=HC.out.2.1
   obtain ⟨HSL,HX⟩:=qh2 HC.out HUP.out HDN.out HTW.out
   have I:=HF0
   have hm1:((0:Nat):Int) - 1 = -1:=rfl
   rw [hm1]
   clear HC HWW HW HF0 hk hm1
   rcases HX with ⟨_,hc,HSL2⟩|⟨hc,_⟩
   case inr=>exact absurd hc (by decide)
   refine wp_seq ?_
   refine ks2_ fun K O T Y=>?_
   refine tk2_ ?_
   refine nz Y I O ?_;clear Y T I O K;intro vw1 I
   refine wp_cond_false (by rfl) ?_
   refine wp_exit ?_
   try simp only [Exit.then,Exit.inBlock]
   refine hK1 _ _ ?_
   clear h0_ h1_ K_ J_ hK1
   show Code.wp _ _ _ _ _
   have hsl1:s.extract 0 c=up:=HSL.out
   have hcl1:(c:Int)≤(s.size:Int):=by omega
   refine kS fun K O=>?_
   have HG0:Hid (Gr vw1 vw1):=lh_ (Gr.refl _)
   refine qm0 fun T Y=>?_
   refine tk3_ ?_
   refine ce1 Tryz.call233 HG0 (fun w' hw=>qh8 up a 0 _ HPN.out HPC.out om) ?_;clear HG0;intro vv2 HG0 _ ao1 nn1 cc1 RN2
   refine tk3_ ?_
   refine wpPlan_nil (Y.out _ _ ?_)
   intro vw2 hg
   simp only [puts,Act.put,lA,lB,lC,lD,lE,↓reduceIte,Nat.reduceEqDiff]
   have J:=lh_ ((I.out.gr (HG0.out.trans hg)).ar (RN2.out.gr hg))
   simp only [zq1_,zq2_,zq3_,zq4_,lF,lG] at J
   clear Y T I hg HG0 RN2
   go_wp2
   refine kF_ O ((J.out).aL (vw2.heap.size)) fun Wx7 I=>?_;clear O K
   clear J
   generalize vw2.heap.size=gx3 at *
   clear hsl1 hcl1
   refine wp_seq ?_
   refine ks2_ fun K O T Y=>?_
   refine tk2_ ?_
   refine nz Y I O ?_;clear Y T I O K;intro vw3 I
   refine wp_cond_false (by rfl) ?_
   refine wp_skip ?_
   show Code.wp _ _ _ _ _
   refine wp_seq ?_
   have heq:((c:Int) == (s.size:Int))=false:=by have h9:¬ ((c:Int)=(s.size:Int)):=om;simpa using h9
   refine qb2 fun K O T Y=>?_
   iterate 4 refine tk ?_
   refine nz Y I O ?_;clear Y T I O K;intro vw4 I
   clear heq
   refine wp_cond_false (by rfl) ?_
   refine wp_skip ?_
   show Code.wp _ _ _ _ _
   have hwc:IntKind.i64.wrap ((c:Int)+1)=((c+1:Nat):Int):=by rw [IntKind.wrap_i64];omega
   have hsl2:s.extract (c+1) s.size=dn:=HSL2.out
   have hcl2:(c:Int)+1≤(s.size:Int):=by omega
   have hcl3:(0:Int)≤(c:Int)+1:=by omega
   refine kS fun K O=>?_
   have HG0:Hid (Gr vw4 vw4):=lh_ (Gr.refl _)
   refine qf_ fun T Y=>?_
   iterate 4 refine tk ?_
   refine ce1 Tryz.call234 HG0 (fun w' hw=>qe2 dn 0 3 _ HQN.out HQC.out om) ?_;clear HG0;intro vv4 HG0 _ ao2 nn2 cc2 RN4
   iterate 5 refine tk ?_
   refine nzR Y O (fun w2 hg=>(I.out.gr (HG0.out.trans hg)).ar (RN4.out.gr hg)) ?_;clear Y T I HG0 RN4 O K;intro vw5 I
   clear hwc hsl2 hcl2 hcl3
   refine wp_seq ?_
   refine ks2_ fun K O T Y=>?_
   refine tk2_ ?_
   refine nz Y I O ?_;clear Y T I O K;intro vw6 I
   refine wp_cond_true (by rfl) ?_
   refine ks2_ fun K O T Y=>?_
   refine tk2_ ?_
   refine nlS Y I fun vw7 J=>?_
   clear Y T I
   have lx0:=kc0_ J;have fx0:=kf0_ J
   have r0:=Gr.refl vw7
   go_wp2
   refine kO O ?_;clear O K
   clear r0 lx0 fx0
   refine fH (((J.out).put2 0 0 rfl).put 0 2 _ rfl) fun Wx14 I=>?_
   clear J
   refine wp_ret ?_
   try simp only [Exit.then,Exit.inBlock]
   have lx0:=kc0_ I
   have r0:=Gr.refl Wx14
   exact bR ⟨⟨.slice none 0 0,.slice none 0 0,rfl,xa7,xa8⟩,I.out.1⟩ qP4
  obtain ⟨k,rfl⟩:∃ k,gk=k+1:=⟨gk - 1,by omega⟩
  have hj2:((k+1:Nat):Int) - 1=(k:Int):=by omega
  rw [hj2]
  have hlt:k<s.size:=by omega
  have hlt2:(k:Int)<(s.size:Int):=by omega
  have hcs:=HC.out.2.1
  obtain ⟨y,hy⟩:∃ y,(s[k]'hlt).toNat=y:=⟨_,rfl⟩
  have hyb:byt s k=y:=by rw [← hy,qd_ hlt]
  have HYB:=lh_ hyb
  clear hyb
  by_cases hb:y=47
  ·subst hb
   go_wp2_with fail
   go_roundg k
   case measure=>omega
   case rel=>exact ⟨k,rfl,by go_num,by omega,lh_ ⟨Nat.le_refl _,by omega,fun p h1 h2=>by omega,fun _=>HYB.out⟩,lh_ rfl⟩
  have hb2:¬ (y:Int)=47:=by omega
  go_wp2_with fail
  go_roundg k
  case measure=>omega
  case rel=>exact ⟨c,rfl,by go_num,by omega,lh_ ⟨by have:=HC.out.1;omega,HC.out.2.1,fun p h1 h2=>by
   by_cases e:p=k
   ·subst e;rw [HYB.out];exact hb
   exact HC.out.2.2.1 p om h2,HC.out.2.2.2⟩,lh_ rfl⟩
theorem qW7 (s up dn:ByteArray) (a:Int) (w:World) (hs:s.size≤9223372036854775807) (hup:up.size≤9223372036854775807) (hdn:dn.size≤9223372036854775807) (HUP:Hid (fup s=up)) (HDN:Hid (fdn s=dn)) (HTW:Hid (ftwo s=true)) (HPC:Hid (qc0 up=0)) (HPN:Hid (inum up=a)) (hwa:tw (Int.natAbs a)≤1100) (HQC:Hid (qb8 dn=4)) (HQN:Hid (pnum dn=0))  :
  Calls Tryz.prog 158 #[.string s] w fun e w'=>(∃ r1 r2:Value,e=.returned (.tuple #[.agg #[.bool (decide (((0:Rat)).num<0)),r1,r2],.int .i64 4])∧Rn w' r1 (Int.natAbs (((0:Rat)).num))∧Rn w' r2 (((0:Rat)).den - 1))∧Gr w w':=by
 obtain ⟨W0,HW⟩:=ex_ (w.alloc (.cells #[.bool false,.slice none 0 0,.slice none 0 0] 47))
 have HF0:Hid (HP w W0 [Sum.inl (w.heap.size,47,#[.bool false,.slice none 0 0,.slice none 0 0])]):=lh_ qG8
 go_enter Tryz.func158,Tryz.ntmps158
 go_wp2_with fail
 rw [HW.out]
 go_loopg [4,5] s.size (fun k cut at_ wr=>∃ c:Nat,cut=.int .i64 (c:Int)∧at_=.int .i64 ((k:Int) - 1)∧k≤s.size∧Hid (qf0 s k c)∧Hid (wr=W0))
 case atStart=>exact ⟨s.size,rfl,rfl,Nat.le_refl _,lh_ ⟨Nat.le_refl _,by omega,fun p h1 h2=>by omega,fun h=>by omega⟩,lh_ rfl⟩
 case round =>
  rename_i K1 hK1 J_ K_ h1_ h0_
  obtain ⟨c,rfl,rfl,hk,HC,HWW⟩:=hrel
  have ew:W0=wr:=HWW.out.symm
  subst ew
  by_cases h0:gk=0
  ·subst h0
   have hcs:=HC.out.2.1
   obtain ⟨HSL,HX⟩:=qh2 HC.out HUP.out HDN.out HTW.out
   have I:=HF0
   have hm1:((0:Nat):Int) - 1 = -1:=rfl
   rw [hm1]
   clear HC HWW HW HF0 hk hm1
   rcases HX with ⟨_,hc,HSL2⟩|⟨hc,_⟩
   case inr=>exact absurd hc (by decide)
   refine wp_seq ?_
   refine ks2_ fun K O T Y=>?_
   refine tk2_ ?_
   refine nz Y I O ?_;clear Y T I O K;intro vw1 I
   refine wp_cond_false (by rfl) ?_
   refine wp_exit ?_
   try simp only [Exit.then,Exit.inBlock]
   refine hK1 _ _ ?_
   clear h0_ h1_ K_ J_ hK1
   show Code.wp _ _ _ _ _
   have hsl1:s.extract 0 c=up:=HSL.out
   have hcl1:(c:Int)≤(s.size:Int):=by omega
   refine kS fun K O=>?_
   have HG0:Hid (Gr vw1 vw1):=lh_ (Gr.refl _)
   refine qm0 fun T Y=>?_
   refine tk3_ ?_
   refine ce1 Tryz.call233 HG0 (fun w' hw=>qh8 up a 0 _ HPN.out HPC.out om) ?_;clear HG0;intro vv2 HG0 _ ao1 nn1 cc1 RN2
   refine tk3_ ?_
   refine wpPlan_nil (Y.out _ _ ?_)
   intro vw2 hg
   simp only [puts,Act.put,lA,lB,lC,lD,lE,↓reduceIte,Nat.reduceEqDiff]
   have J:=lh_ ((I.out.gr (HG0.out.trans hg)).ar (RN2.out.gr hg))
   simp only [zq1_,zq2_,zq3_,zq4_,lF,lG] at J
   clear Y T I hg HG0 RN2
   go_wp2
   refine kF_ O ((J.out).aL (vw2.heap.size)) fun Wx7 I=>?_;clear O K
   clear J
   generalize vw2.heap.size=gx3 at *
   clear hsl1 hcl1
   refine wp_seq ?_
   refine ks2_ fun K O T Y=>?_
   refine tk2_ ?_
   refine nz Y I O ?_;clear Y T I O K;intro vw3 I
   refine wp_cond_false (by rfl) ?_
   refine wp_skip ?_
   show Code.wp _ _ _ _ _
   refine wp_seq ?_
   have heq:((c:Int) == (s.size:Int))=false:=by have h9:¬ ((c:Int)=(s.size:Int)):=om;simpa using h9
   refine qb2 fun K O T Y=>?_
   iterate 4 refine tk ?_
   refine nz Y I O ?_;clear Y T I O K;intro vw4 I
   clear heq
   refine wp_cond_false (by rfl) ?_
   refine wp_skip ?_
   show Code.wp _ _ _ _ _
   have hwc:IntKind.i64.wrap ((c:Int)+1)=((c+1:Nat):Int):=by rw [IntKind.wrap_i64];omega
   have hsl2:s.extract (c+1) s.size=dn:=HSL2.out
   have hcl2:(c:Int)+1≤(s.size:Int):=by omega
   have hcl3:(0:Int)≤(c:Int)+1:=by omega
   refine kS fun K O=>?_
   have HG0:Hid (Gr vw4 vw4):=lh_ (Gr.refl _)
   refine qf_ fun T Y=>?_
   iterate 4 refine tk ?_
   refine ce1 Tryz.call234 HG0 (fun w' hw=>qe2 dn 0 4 _ HQN.out HQC.out om) ?_;clear HG0;intro vv4 HG0 _ ao2 nn2 cc2 RN4
   iterate 5 refine tk ?_
   refine nzR Y O (fun w2 hg=>(I.out.gr (HG0.out.trans hg)).ar (RN4.out.gr hg)) ?_;clear Y T I HG0 RN4 O K;intro vw5 I
   clear hwc hsl2 hcl2 hcl3
   refine wp_seq ?_
   refine ks2_ fun K O T Y=>?_
   refine tk2_ ?_
   refine nz Y I O ?_;clear Y T I O K;intro vw6 I
   refine wp_cond_true (by rfl) ?_
   refine ks2_ fun K O T Y=>?_
   refine tk2_ ?_
   refine nlS Y I fun vw7 J=>?_
   clear Y T I
   have lx0:=kc0_ J;have fx0:=kf0_ J
   have r0:=Gr.refl vw7
   go_wp2
   refine kO O ?_;clear O K
   clear r0 lx0 fx0
   refine fH (((J.out).put2 0 0 rfl).put 0 2 _ rfl) fun Wx14 I=>?_
   clear J
   refine wp_ret ?_
   try simp only [Exit.then,Exit.inBlock]
   have lx0:=kc0_ I
   have r0:=Gr.refl Wx14
   exact bR ⟨⟨.slice none 0 0,.slice none 0 0,rfl,xa7,xa8⟩,I.out.1⟩ qP4
  obtain ⟨k,rfl⟩:∃ k,gk=k+1:=⟨gk - 1,by omega⟩
  have hj2:((k+1:Nat):Int) - 1=(k:Int):=by omega
  rw [hj2]
  have hlt:k<s.size:=by omega
  have hlt2:(k:Int)<(s.size:Int):=by omega
  have hcs:=HC.out.2.1
  obtain ⟨y,hy⟩:∃ y,(s[k]'hlt).toNat=y:=⟨_,rfl⟩
  have hyb:byt s k=y:=by rw [← hy,qd_ hlt]
  have HYB:=lh_ hyb
  clear hyb
  by_cases hb:y=47
  ·subst hb
   go_wp2_with fail
   go_roundg k
   case measure=>omega
   case rel=>exact ⟨k,rfl,by go_num,by omega,lh_ ⟨Nat.le_refl _,by omega,fun p h1 h2=>by omega,fun _=>HYB.out⟩,lh_ rfl⟩
  have hb2:¬ (y:Int)=47:=by omega
  go_wp2_with fail
  go_roundg k
  case measure=>omega
  case rel=>exact ⟨c,rfl,by go_num,by omega,lh_ ⟨by have:=HC.out.1;omega,HC.out.2.1,fun p h1 h2=>by
   by_cases e:p=k
   ·subst e;rw [HYB.out];exact hb
   exact HC.out.2.2.1 p om h2,HC.out.2.2.2⟩,lh_ rfl⟩
theorem xh0 (s up dn:ByteArray) (a:Int) (w:World) (hs:s.size≤9223372036854775807) (hup:up.size≤9223372036854775807) (hdn:dn.size≤9223372036854775807) (HUP:Hid (fup s=up)) (HDN:Hid (fdn s=dn)) (HTW:Hid (ftwo s=true)) (HPC:Hid (qc0 up=0)) (HPN:Hid (inum up=a)) (hwa:tw (Int.natAbs a)≤1100) (HQC:Hid (qb8 dn=0)) (HQN:Hid (pnum dn=0))  :
  Calls Tryz.prog 158 #[.string s] w fun e w'=>(∃ r1 r2:Value,e=.returned (.tuple #[.agg #[.bool (decide (((0:Rat)).num<0)),r1,r2],.int .i64 5])∧Rn w' r1 (Int.natAbs (((0:Rat)).num))∧Rn w' r2 (((0:Rat)).den - 1))∧Gr w w':=by
 obtain ⟨W0,HW⟩:=ex_ (w.alloc (.cells #[.bool false,.slice none 0 0,.slice none 0 0] 47))
 have HF0:Hid (HP w W0 [Sum.inl (w.heap.size,47,#[.bool false,.slice none 0 0,.slice none 0 0])]):=lh_ qG8
 go_enter Tryz.func158,Tryz.ntmps158
 go_wp2_with fail
 rw [HW.out]
 go_loopg [4,5] s.size (fun k cut at_ wr=>∃ c:Nat,cut=.int .i64 (c:Int)∧at_=.int .i64 ((k:Int) - 1)∧k≤s.size∧Hid (qf0 s k c)∧Hid (wr=W0))
 case atStart=>exact ⟨s.size,rfl,rfl,Nat.le_refl _,lh_ ⟨Nat.le_refl _,by omega,fun p h1 h2=>by omega,fun h=>by omega⟩,lh_ rfl⟩
 case round =>
  rename_i K1 hK1 J_ K_ h1_ h0_
  obtain ⟨c,rfl,rfl,hk,HC,HWW⟩:=hrel
  have ew:W0=wr:=HWW.out.symm
  subst ew
  by_cases h0:gk=0
  ·subst h0
   have hcs:=HC.out.2.1
   obtain ⟨HSL,HX⟩:=qh2 HC.out HUP.out HDN.out HTW.out
   have I:=HF0
   have hm1:((0:Nat):Int) - 1 = -1:=rfl
   rw [hm1]
   clear HC HWW HW HF0 hk hm1
   rcases HX with ⟨_,hc,HSL2⟩|⟨hc,_⟩
   case inr=>exact absurd hc (by decide)
   refine wp_seq ?_
   refine ks2_ fun K O T Y=>?_
   refine tk2_ ?_
   refine nz Y I O ?_;clear Y T I O K;intro vw1 I
   refine wp_cond_false (by rfl) ?_
   refine wp_exit ?_
   try simp only [Exit.then,Exit.inBlock]
   refine hK1 _ _ ?_
   clear h0_ h1_ K_ J_ hK1
   show Code.wp _ _ _ _ _
   have hsl1:s.extract 0 c=up:=HSL.out
   have hcl1:(c:Int)≤(s.size:Int):=by omega
   refine kS fun K O=>?_
   have HG0:Hid (Gr vw1 vw1):=lh_ (Gr.refl _)
   refine qm0 fun T Y=>?_
   refine tk3_ ?_
   refine ce1 Tryz.call233 HG0 (fun w' hw=>qh8 up a 0 _ HPN.out HPC.out om) ?_;clear HG0;intro vv2 HG0 _ ao1 nn1 cc1 RN2
   refine tk3_ ?_
   refine wpPlan_nil (Y.out _ _ ?_)
   intro vw2 hg
   simp only [puts,Act.put,lA,lB,lC,lD,lE,↓reduceIte,Nat.reduceEqDiff]
   have J:=lh_ ((I.out.gr (HG0.out.trans hg)).ar (RN2.out.gr hg))
   simp only [zq1_,zq2_,zq3_,zq4_,lF,lG] at J
   clear Y T I hg HG0 RN2
   go_wp2
   refine kF_ O ((J.out).aL (vw2.heap.size)) fun Wx7 I=>?_;clear O K
   clear J
   generalize vw2.heap.size=gx3 at *
   clear hsl1 hcl1
   refine wp_seq ?_
   refine ks2_ fun K O T Y=>?_
   refine tk2_ ?_
   refine nz Y I O ?_;clear Y T I O K;intro vw3 I
   refine wp_cond_false (by rfl) ?_
   refine wp_skip ?_
   show Code.wp _ _ _ _ _
   refine wp_seq ?_
   have heq:((c:Int) == (s.size:Int))=false:=by have h9:¬ ((c:Int)=(s.size:Int)):=om;simpa using h9
   refine qb2 fun K O T Y=>?_
   iterate 4 refine tk ?_
   refine nz Y I O ?_;clear Y T I O K;intro vw4 I
   clear heq
   refine wp_cond_false (by rfl) ?_
   refine wp_skip ?_
   show Code.wp _ _ _ _ _
   have hwc:IntKind.i64.wrap ((c:Int)+1)=((c+1:Nat):Int):=by rw [IntKind.wrap_i64];omega
   have hsl2:s.extract (c+1) s.size=dn:=HSL2.out
   have hcl2:(c:Int)+1≤(s.size:Int):=by omega
   have hcl3:(0:Int)≤(c:Int)+1:=by omega
   refine kS fun K O=>?_
   have HG0:Hid (Gr vw4 vw4):=lh_ (Gr.refl _)
   refine qf_ fun T Y=>?_
   iterate 4 refine tk ?_
   refine ce1 Tryz.call234 HG0 (fun w' hw=>qe2 dn 0 0 _ HQN.out HQC.out om) ?_;clear HG0;intro vv4 HG0 _ ao2 nn2 cc2 RN4
   iterate 5 refine tk ?_
   refine nzR Y O (fun w2 hg=>(I.out.gr (HG0.out.trans hg)).ar (RN4.out.gr hg)) ?_;clear Y T I HG0 RN4 O K;intro vw5 I
   clear hwc hsl2 hcl2 hcl3
   refine wp_seq ?_
   refine ks2_ fun K O T Y=>?_
   refine tk2_ ?_
   refine nz Y I O ?_;clear Y T I O K;intro vw6 I
   refine wp_cond_false (by rfl) ?_
   refine wp_skip ?_
   show Code.wp _ _ _ _ _
   refine wp_seq ?_
   have hlz:((nn2:Int) == 0)=true:=by have hl:=Rn.len (I.out.rn 3 rfl);rw [hl,qf3];rfl
   refine ks3_ fun K O T Y=>?_
   refine tk3_ ?_
   refine nz Y I O ?_;clear Y T I O K;intro vw7 I
   clear hlz
   refine wp_cond_true (by rfl) ?_
   refine ks1_ fun K O T Y=>?_
   refine tk ?_
   refine nlS Y I fun vw8 J=>?_
   clear Y T I
   have lx0:=kc0_ J;have fx0:=kf0_ J
   have r0:=Gr.refl vw8
   go_wp2
   refine kO O ?_;clear O K
   clear r0 lx0 fx0
   refine fH (((J.out).put2 0 0 rfl).put 0 2 _ rfl) fun Wx16 I=>?_
   clear J
   refine wp_ret ?_
   try simp only [Exit.then,Exit.inBlock]
   have lx0:=kc0_ I
   have r0:=Gr.refl Wx16
   exact bR ⟨⟨.slice none 0 0,.slice none 0 0,rfl,xa7,xa8⟩,I.out.1⟩ qP4
  obtain ⟨k,rfl⟩:∃ k,gk=k+1:=⟨gk - 1,by omega⟩
  have hj2:((k+1:Nat):Int) - 1=(k:Int):=by omega
  rw [hj2]
  have hlt:k<s.size:=by omega
  have hlt2:(k:Int)<(s.size:Int):=by omega
  have hcs:=HC.out.2.1
  obtain ⟨y,hy⟩:∃ y,(s[k]'hlt).toNat=y:=⟨_,rfl⟩
  have hyb:byt s k=y:=by rw [← hy,qd_ hlt]
  have HYB:=lh_ hyb
  clear hyb
  by_cases hb:y=47
  ·subst hb
   go_wp2_with fail
   go_roundg k
   case measure=>omega
   case rel=>exact ⟨k,rfl,by go_num,by omega,lh_ ⟨Nat.le_refl _,by omega,fun p h1 h2=>by omega,fun _=>HYB.out⟩,lh_ rfl⟩
  have hb2:¬ (y:Int)=47:=by omega
  go_wp2_with fail
  go_roundg k
  case measure=>omega
  case rel=>exact ⟨c,rfl,by go_num,by omega,lh_ ⟨by have:=HC.out.1;omega,HC.out.2.1,fun p h1 h2=>by
   by_cases e:p=k
   ·subst e;rw [HYB.out];exact hb
   exact HC.out.2.2.1 p om h2,HC.out.2.2.2⟩,lh_ rfl⟩
theorem xh1 (s up dn:ByteArray) (a:Int) (n:Nat) (z:Rat) (w:World) (hs:s.size≤9223372036854775807) (hup:up.size≤9223372036854775807) (hdn:dn.size≤9223372036854775807) (HUP:Hid (fup s=up)) (HDN:Hid (fdn s=dn)) (HTW:Hid (ftwo s=true)) (HPC:Hid (qc0 up=0)) (HPN:Hid (inum up=a)) (hwa:tw (Int.natAbs a)≤1100) (HQC:Hid (qb8 dn=0)) (HQN:Hid (pnum dn=n)) (hn0:0<n) (hwn:tw n≤1100) (HZ:Hid (mkRat a n=z))  :
  Calls Tryz.prog 158 #[.string s] w fun e w'=>(∃ r1 r2:Value,e=.returned (.tuple #[.agg #[.bool (decide (z.num<0)),r1,r2],.int .i64 0])∧Rn w' r1 z.num.natAbs∧Rn w' r2 (z.den - 1))∧Gr w w':=by
 obtain ⟨W0,HW⟩:=ex_ (w.alloc (.cells #[.bool false,.slice none 0 0,.slice none 0 0] 47))
 have HF0:Hid (HP w W0 [Sum.inl (w.heap.size,47,#[.bool false,.slice none 0 0,.slice none 0 0])]):=lh_ qG8
 go_enter Tryz.func158,Tryz.ntmps158
 go_wp2_with fail
 rw [HW.out]
 go_loopg [4,5] s.size (fun k cut at_ wr=>∃ c:Nat,cut=.int .i64 (c:Int)∧at_=.int .i64 ((k:Int) - 1)∧k≤s.size∧Hid (qf0 s k c)∧Hid (wr=W0))
 case atStart=>exact ⟨s.size,rfl,rfl,Nat.le_refl _,lh_ ⟨Nat.le_refl _,by omega,fun p h1 h2=>by omega,fun h=>by omega⟩,lh_ rfl⟩
 case round =>
  rename_i K1 hK1 J_ K_ h1_ h0_
  obtain ⟨c,rfl,rfl,hk,HC,HWW⟩:=hrel
  have ew:W0=wr:=HWW.out.symm
  subst ew
  by_cases h0:gk=0
  ·subst h0
   have hcs:=HC.out.2.1
   obtain ⟨HSL,HX⟩:=qh2 HC.out HUP.out HDN.out HTW.out
   have I:=HF0
   have hm1:((0:Nat):Int) - 1 = -1:=rfl
   rw [hm1]
   clear HC HWW HW HF0 hk hm1
   rcases HX with ⟨_,hc,HSL2⟩|⟨hc,_⟩
   case inr=>exact absurd hc (by decide)
   refine wp_seq ?_
   refine ks2_ fun K O T Y=>?_
   refine tk2_ ?_
   refine nz Y I O ?_;clear Y T I O K;intro vw1 I
   refine wp_cond_false (by rfl) ?_
   refine wp_exit ?_
   try simp only [Exit.then,Exit.inBlock]
   refine hK1 _ _ ?_
   clear h0_ h1_ K_ J_ hK1
   show Code.wp _ _ _ _ _
   have hsl1:s.extract 0 c=up:=HSL.out
   have hcl1:(c:Int)≤(s.size:Int):=by omega
   refine kS fun K O=>?_
   have HG0:Hid (Gr vw1 vw1):=lh_ (Gr.refl _)
   refine qm0 fun T Y=>?_
   refine tk3_ ?_
   refine ce1 Tryz.call233 HG0 (fun w' hw=>qh8 up a 0 _ HPN.out HPC.out om) ?_;clear HG0;intro vv2 HG0 _ ao1 nn1 cc1 RN2
   refine tk3_ ?_
   refine wpPlan_nil (Y.out _ _ ?_)
   intro vw2 hg
   simp only [puts,Act.put,lA,lB,lC,lD,lE,↓reduceIte,Nat.reduceEqDiff]
   have J:=lh_ ((I.out.gr (HG0.out.trans hg)).ar (RN2.out.gr hg))
   simp only [zq1_,zq2_,zq3_,zq4_,lF,lG] at J
   clear Y T I hg HG0 RN2
   go_wp2
   refine kF_ O ((J.out).aL (vw2.heap.size)) fun Wx7 I=>?_;clear O K
   clear J
   generalize vw2.heap.size=gx3 at *
   clear hsl1 hcl1
   refine wp_seq ?_
   refine ks2_ fun K O T Y=>?_
   refine tk2_ ?_
   refine nz Y I O ?_;clear Y T I O K;intro vw3 I
   refine wp_cond_false (by rfl) ?_
   refine wp_skip ?_
   show Code.wp _ _ _ _ _
   refine wp_seq ?_
   have heq:((c:Int) == (s.size:Int))=false:=by have h9:¬ ((c:Int)=(s.size:Int)):=om;simpa using h9
   refine qb2 fun K O T Y=>?_
   iterate 4 refine tk ?_
   refine nz Y I O ?_;clear Y T I O K;intro vw4 I
   clear heq
   refine wp_cond_false (by rfl) ?_
   refine wp_skip ?_
   show Code.wp _ _ _ _ _
   have hwc:IntKind.i64.wrap ((c:Int)+1)=((c+1:Nat):Int):=by rw [IntKind.wrap_i64];omega
   have hsl2:s.extract (c+1) s.size=dn:=HSL2.out
   have hcl2:(c:Int)+1≤(s.size:Int):=by omega
   have hcl3:(0:Int)≤(c:Int)+1:=by omega
   refine kS fun K O=>?_
   have HG0:Hid (Gr vw4 vw4):=lh_ (Gr.refl _)
   refine qf_ fun T Y=>?_
   iterate 4 refine tk ?_
   refine ce1 Tryz.call234 HG0 (fun w' hw=>qe2 dn n 0 _ HQN.out HQC.out om) ?_;clear HG0;intro vv4 HG0 _ ao2 nn2 cc2 RN4
   iterate 5 refine tk ?_
   refine nzR Y O (fun w2 hg=>(I.out.gr (HG0.out.trans hg)).ar (RN4.out.gr hg)) ?_;clear Y T I HG0 RN4 O K;intro vw5 I
   clear hwc hsl2 hcl2 hcl3
   refine wp_seq ?_
   refine ks2_ fun K O T Y=>?_
   refine tk2_ ?_
   refine nz Y I O ?_;clear Y T I O K;intro vw6 I
   refine wp_cond_false (by rfl) ?_
   refine wp_skip ?_
   show Code.wp _ _ _ _ _
   refine wp_seq ?_
   have hlz:((nn2:Int) == 0)=false:=by have hl:=Rn.len (I.out.rn 3 rfl);have ht:0<tw n:=qo1 hn0;have h8:¬ (nn2:Int)=0:=om;simpa using h8
   refine ks3_ fun K O T Y=>?_
   refine tk3_ ?_
   refine nz Y I O ?_;clear Y T I O K;intro vw7 I
   clear hlz
   refine wp_cond_false (by rfl) ?_
   refine wp_skip ?_
   show Code.wp _ _ _ _ _
   have HZ1:Hid (mkRat a n=z):=lh_ (HZ.out)
   have su1:rz z≤1100:=by have e:=HZ1.out;first|omega|(rw [← e];exact qk8 (k:=1100) om om (by decide))
   have lx3:=kc2_ I
   refine kS fun K O=>?_
   have HG0:Hid (Gr vw7 vw7):=lh_ (Gr.refl _)
   refine xq7 fun T Y=>?_
   refine tk2_ ?_
   refine ce2 Tryz.call195 HG0 (fun w' hw=>qj9 a n z _ _ _ HZ1.out ok om om (I.out.r 1 rfl (HG0.out.trans hw)) (I.out.r 3 rfl (HG0.out.trans hw))) ?_;clear HG0;intro vv5 HG0 _ ao3 nn3 cc3 ao4 nn4 cc4 RN5 RN6
   clear lx3;have lx3:=fun w' (h:Gr _ w')=>kc2_ I w' (HG0.out.trans h)
   refine wpPlan_nil (Y.out _ _ ?_)
   intro vw8 hg
   simp only [puts,Act.put,lA,lB,lC,lD,lE,↓reduceIte,Nat.reduceEqDiff]
   have J:=lh_ (((I.out.gr (HG0.out.trans hg)).ar (RN5.out.gr hg)).ar (RN6.out.gr hg))
   simp only [zq1_,zq2_,zq3_,zq4_,lF,lG] at J
   clear Y T I hg HG0 RN5 RN6 lx3
   have lx0:=kc0_ J;have fx0:=kf0_ J
   have r0:=Gr.refl vw8
   go_wp2
   refine kO O ?_;clear O K
   clear r0 lx0 fx0
   refine fH ((((((J.out).put2 0 0 rfl).put 0 2 _ rfl).er 3).er 2).er 1) fun Wx17 I=>?_
   clear J
   refine wp_ret ?_
   try simp only [Exit.then,Exit.inBlock]
   have lx0:=kc0_ I
   have r0:=Gr.refl Wx17
   exact bR ⟨⟨(.slice ao3 nn3 cc3),(.slice ao4 nn4 cc4),rfl,(I.out.rn 1 rfl),(I.out.rn 2 rfl)⟩,I.out.1⟩ qP4
  obtain ⟨k,rfl⟩:∃ k,gk=k+1:=⟨gk - 1,by omega⟩
  have hj2:((k+1:Nat):Int) - 1=(k:Int):=by omega
  rw [hj2]
  have hlt:k<s.size:=by omega
  have hlt2:(k:Int)<(s.size:Int):=by omega
  have hcs:=HC.out.2.1
  obtain ⟨y,hy⟩:∃ y,(s[k]'hlt).toNat=y:=⟨_,rfl⟩
  have hyb:byt s k=y:=by rw [← hy,qd_ hlt]
  have HYB:=lh_ hyb
  clear hyb
  by_cases hb:y=47
  ·subst hb
   go_wp2_with fail
   go_roundg k
   case measure=>omega
   case rel=>exact ⟨k,rfl,by go_num,by omega,lh_ ⟨Nat.le_refl _,by omega,fun p h1 h2=>by omega,fun _=>HYB.out⟩,lh_ rfl⟩
  have hb2:¬ (y:Int)=47:=by omega
  go_wp2_with fail
  go_roundg k
  case measure=>omega
  case rel=>exact ⟨c,rfl,by go_num,by omega,lh_ ⟨by have:=HC.out.1;omega,HC.out.2.1,fun p h1 h2=>by
   by_cases e:p=k
   ·subst e;rw [HYB.out];exact hb
   exact HC.out.2.2.1 p om h2,HC.out.2.2.2⟩,lh_ rfl⟩
end Go.Proofs.YtobojnodohjiaaaGreatDoor
