
/- gussetref04: Text. -/
import Derived.Test.YtobojnodohjiaaaGreatDoorRDec2
set_option maxRecDepth 100000
set_option maxHeartbeats 16000000
set_option linter.unusedVariables false
set_option linter.unusedSimpArgs false
namespace Go.Proofs.YtobojnodohjiaaaGreatDoor
open Go.RowKit
attribute [local go_sem ↓] Go.wp_at_zero Go.wp_at_succ
attribute [local go_sem ↓] eq_nat eq_nat_zero eq_int
theorem xc2 (a:ByteArray):(⟨#[]⟩:ByteArray) ++ a=a:=by
 have h:((⟨#[]⟩:ByteArray) ++ a).data.toList=a.data.toList:=by simp
 generalize (⟨#[]⟩:ByteArray) ++ a=b at *
 cases a;cases b;congr 1;exact Array.toList_inj.1 h
theorem xA0 (a:Rat) (k:Nat) (way z c:Int) (D DG r:ByteArray) (va1 va2:Value) (w:World) (HM:Hid (rnd way (a*(((10 ^ k:Nat):Int):Rat))=z)) (hk:k≤100) (hw1:1≤way) (hw2:way≤3) (hs:rz a≤800) (HNG:Hid (z<0)) (HD:Hid ((⟨(Lib.decDigits z.natAbs).toArray⟩:ByteArray)=D)) (hD:D.size≤100000) (HCC:Hid ((k:Int)+1 - (D.size:Int)=c)) (HDG:Hid (zpad c.toNat D=DG)) (hdz:k+1≤DG.size) (hdz2:DG.size≤200000) (HRR:Hid (wrt (⟨#[45]⟩:ByteArray) DG k=r)) (bx21:Rn w va1 a.num.natAbs) (bx22:Rn w va2 (a.den - 1)) :
  CB 182 #[.agg #[.bool (decide (a.num<0)),va1,va2],.int .i64 (((k:Nat):Int)),.int .i64 way] w ((.tuple #[.string r,.int .i64 0])):=by
 obtain ⟨ao_va1,n_va1,c_va1,rfl⟩:=Rn.sl bx21
 obtain ⟨ao_va2,n_va2,c_va2,rfl⟩:=Rn.sl bx22
 go_enter Tryz.func182,Tryz.ntmps182
 have I:=lh_ (hp0 w)
 replace I:=lh_ ((I.out.ar bx21).ar bx22)
 simp only [lF,lG] at I
 clear bx21 bx22
 refine kSl fun K O=>?_;go_wp2
 refine kF_ O (al1_ I) fun Wx0 J=>?_;clear O K
 clear I;have I:=J;clear J
 have HZ1:Hid (rnd way (a*(((10 ^ k:Nat):Int):Rat))=z):=lh_ (HM.out)
 have su1:tw z.natAbs≤910:=by have e:=HZ1.out;first|omega|(rw [← e];exact qz8 om om)
 have lx23:=kc2_ I
 refine kS fun K O=>?_
 have HG0:Hid (Gr Wx0 Wx0):=lh_ (Gr.refl _)
 refine qx6 fun T Y=>?_
 refine tk3_ ?_
 refine ce1 Tryz.call246 HG0 (fun w' hw=>xe2 way a k z _ _ _ om om HZ1.out om om (I.out.r 0 rfl (HG0.out.trans hw)) (I.out.r 1 rfl (HG0.out.trans hw))) ?_;clear HG0;intro vv25 HG0 _ ao1 nn1 cc1 RN25
 clear lx23;have lx23:=fun w' (h:Gr _ w')=>kc2_ I w' (HG0.out.trans h)
 refine tk3_ ?_
 refine qa0 (Y.out _ _ ?_)
 intro vw1 hg
 simp only [puts,Act.put,lA,lB,lC,lD,lE,↓reduceIte,Nat.reduceEqDiff]
 have J:=lh_ ((I.out.gr (HG0.out.trans hg)).ar (RN25.out.gr hg))
 simp only [zq1_,zq2_,zq3_,zq4_,lF,lG] at J
 clear Y T I hg HG0 RN25 lx23
 go_wp2
 refine kF_ O (((((J.out).aL (vw1.heap.size)).er 2).er 1).er 0) fun Wx1 I=>?_;clear O K
 clear J
 generalize vw1.heap.size=gx26 at *
 refine wp_seq ?_
 refine ks2_ fun K O T Y=>?_
 refine tk2_ ?_
 refine nz Y I O ?_;clear Y T I O K;intro vw2 I
 refine wp_cond_false (by rfl) ?_
 refine wp_skip ?_
 show Code.wp _ _ _ _ _
 have lx26:=kc1_ I
 refine ks4_ fun K O T Y=>?_
 refine tk2_ ?_
 refine ck Tryz.call177 (fun w' hw=>qQ3 _ z.natAbs D _ HD.out (I.out.r 0 rfl hw) om) ?_
 refine tk ?_
 refine nz Y I O ?_;clear Y T I lx26 O K;intro vw3 I
 refine wp_seq ?_
 refine wp_block ?_
 go_loopg [10] c.toNat (fun k iv wr=>∃ (i:Nat) (s:ByteArray),iv=.string s∧i+k=c.toNat∧Hid (zpad i D=s)∧Hid (HP w wr [Sum.inr ((.slice ao1 nn1 cc1),Int.natAbs z),Sum.inl (gx26,45,#[.bool (z<0),(.slice ao1 nn1 cc1)])]))
 case atStart=>exact ⟨0,D,rfl,by omega,lh_ rfl,I⟩
 case round =>
  rename_i J_ K_ h1_ h0_
  clear I
  obtain ⟨i,s,rfl,hik,HS,I⟩:=hrel
  have hsz:s.size=D.size+i:=by rw [← HS.out,qk6]
  have hc0:=HCC.out
  rcases gk with _|k'
  ·obtain rfl:i=c.toNat:=by omega
   obtain rfl:s=DG:=by rw [← HS.out,← HDG.out]
   have HLT:Hid (¬ ((s.size:Int)<(k:Int)+1)):=lh_ om
   clear hsz hc0 HS
   refine wp_seq ?_
   have hwk:IntKind.i64.wrap ((k:Int)+1)=(k:Int)+1:=by rw [IntKind.wrap_i64];omega
   have hlt9:¬ ((s.size:Int)<(k:Int)+1):=HLT.out
   refine ks5_ fun K O T Y=>?_
   iterate 5 refine tk ?_
   refine nz Y I O ?_;clear Y T I O K;intro vw4 I
   clear hwk hlt9
   refine wp_cond_false (by rfl) ?_
   refine wp_exit ?_
   show Code.wp _ _ _ _ _
   refine wp_seq ?_
   rcases Nat.eq_zero_or_pos k with hk0|hk0
   ·have HR:Hid (⟨#[45]⟩ ++ s=r):=lh_ (by have e:=HRR.out;unfold wrt at e;rw [if_pos hk0] at e;exact e)
    have HK:=lh_ hk0
    clear hk0
    have hkg:¬ (0<k):=by have:=HK.out;omega
    refine ks2_ fun K O T Y=>?_
    refine tk2_ ?_
    refine nz Y I O ?_;clear Y T I O K;intro vw5 I
    clear hkg
    refine wp_cond_false (by rfl) ?_
    refine wp_skip ?_
    show Code.wp _ _ _ _ _
    refine wp_seq ?_
    have hd1:decide (z<0)=true:=decide_eq_true (by (have e:=HNG.out;omega))
    have lx26:=kc1_ I
    refine ks2_ fun K O T Y=>?_
    refine tk2_ ?_
    refine nzR Y O (fun w2 hg=>((I.out.gr hg).er 1).er 0) ?_;clear Y T I lx26 O K;intro Wx9 I
    clear hd1
    refine wp_cond_true (by rfl) ?_
    have hlen9:¬ (9223372036854775807<1+s.size):=by omega
    have hcat9:(⟨#[45]⟩:ByteArray) ++ s=r:=HR.out
    refine kL fun K O=>?_
    refine sq3_ fun T Y=>?_
    refine tk3_ ?_
    refine nlS Y I fun vw7 J=>?_
    clear Y T I
    go_wp2
    refine kO O ?_;clear O K
    have I:=J;clear J
    clear hlen9 hcat9
    refine ks3_ fun K O T Y=>?_
    refine tk3_ ?_
    refine nz Y I O ?_;clear Y T I O K;intro vw8 I
    refine wp_ret ?_
    try simp only [Exit.then,Exit.inBlock]
    exact bR ⟨rfl,I.out.1⟩ xh5
   obtain ⟨b,hb⟩:∃ b,b+k=s.size:=⟨s.size - k,by omega⟩
   obtain ⟨r1,HR1⟩:=ex_ (s.extract 0 b)
   obtain ⟨t1,HC1⟩:=ex_ (r1 ++ (⟨#[46]⟩:ByteArray))
   obtain ⟨r2,HR2⟩:=ex_ (s.extract b s.size)
   obtain ⟨u,HC2⟩:=ex_ (t1 ++ r2)
   have hz1:r1.size≤200000:=by rw [← HR1.out];simp;omega
   have hz2:r2.size≤200000:=by rw [← HR2.out];simp;omega
   have hz3:t1.size≤200001:=by rw [← HC1.out,ql7];have:(⟨#[46]⟩:ByteArray).size=1:=rfl;omega
   have hz4:u.size≤400001:=by rw [← HC2.out,ql7];omega
   have HR:Hid (⟨#[45]⟩ ++ u=r):=lh_ (by have e:=HRR.out;unfold wrt at e;rw [if_neg om,show s.size - k=b by omega,HR1.out,HR2.out] at e;rw [← HC2.out,← HC1.out];rw [← e] <;> simp only [ByteArray.append_assoc])
   have HK:=lh_ hk0
   clear hk0
   have hkg:0<k:=HK.out
   refine ks2_ fun K O T Y=>?_
   refine tk2_ ?_
   refine nz Y I O ?_;clear Y T I O K;intro vw5 I
   clear hkg
   refine wp_cond_true (by rfl) ?_
   have hwa:IntKind.i64.wrap ((s.size:Int) - (k:Int))=(b:Int):=by rw [IntKind.wrap_i64];omega
   have hsl1:s.extract 0 b=r1:=HR1.out
   have hcl1:(b:Int)≤(s.size:Int):=by omega
   have hlen1:¬ (9223372036854775807<r1.size+1):=by omega
   have hcat1:r1 ++ (⟨#[46]⟩:ByteArray)=t1:=HC1.out
   have hsl2:s.extract b s.size=r2:=HR2.out
   have hlen2:¬ (9223372036854775807<t1.size+r2.size):=by omega
   have hcat2:t1 ++ r2=u:=HC2.out
   refine kL fun K O=>?_
   refine xI0 fun T Y=>?_
   iterate 14 refine tk ?_
   refine nlD Y I fun vw6 J=>?_
   clear Y T I
   go_wp2
   refine kO O ?_;clear O K
   have I:=J;clear J
   clear hwa hsl1 hcl1 hlen1 hcat1 hsl2 hlen2 hcat2
   refine wp_seq ?_
   have hd1:decide (z<0)=true:=decide_eq_true (by (have e:=HNG.out;omega))
   have lx26:=kc1_ I
   refine ks2_ fun K O T Y=>?_
   refine tk2_ ?_
   refine nzR Y O (fun w2 hg=>((I.out.gr hg).er 1).er 0) ?_;clear Y T I lx26 O K;intro Wx9 I
   clear hd1
   refine wp_cond_true (by rfl) ?_
   have hlen9:¬ (9223372036854775807<1+u.size):=by omega
   have hcat9:(⟨#[45]⟩:ByteArray) ++ u=r:=HR.out
   refine kL fun K O=>?_
   refine sq3_ fun T Y=>?_
   refine tk3_ ?_
   refine nlS Y I fun vw8 J=>?_
   clear Y T I
   go_wp2
   refine kO O ?_;clear O K
   have I:=J;clear J
   clear hlen9 hcat9
   refine ks3_ fun K O T Y=>?_
   refine tk3_ ?_
   refine nz Y I O ?_;clear Y T I O K;intro vw9 I
   refine wp_ret ?_
   try simp only [Exit.then,Exit.inBlock]
   exact bR ⟨rfl,I.out.1⟩ xh5
  obtain ⟨s',HS'⟩:∃ q,Hid ((⟨#[48]⟩:ByteArray) ++ s=q):=⟨_,lh_ rfl⟩
  have HLT:Hid ((s.size:Int)<(k:Int)+1):=lh_ om
  have hsz2:s.size≤200000:=by omega
  clear hsz hc0
  refine wp_seq ?_
  have hwk:IntKind.i64.wrap ((k:Int)+1)=(k:Int)+1:=by rw [IntKind.wrap_i64];omega
  have hlt9:(s.size:Int)<(k:Int)+1:=HLT.out
  refine ks5_ fun K O T Y=>?_
  iterate 5 refine tk ?_
  refine nz Y I O ?_;clear Y T I O K;intro vw4 I
  clear hwk hlt9
  refine wp_cond_true (by rfl) ?_
  refine wp_skip ?_
  show Code.wp _ _ _ _ _
  refine wp_block ?_
  have hlen1:¬ (9223372036854775807<1+s.size):=by omega
  have hcat1:(⟨#[48]⟩:ByteArray) ++ s=s':=HS'.out
  refine kL fun K O=>?_
  refine sq3_ fun T Y=>?_
  refine tk3_ ?_
  refine nlS Y I fun vw5 J=>?_
  clear Y T I
  go_wp2
  refine O.out _ _ ?_;clear O K
  try simp only [Exit.then,Exit.inBlock]
  have I:=lh_ (J.out);clear J
  clear hlen1 hcat1
  refine h0_ _ _ ?_
  go_roundg k'
  case measure=>omega
  case rel=>exact ⟨i+1,s',rfl,by omega,lh_ (by rw [← HS'.out,← HS.out];rfl),lh_ (I.out)⟩
theorem xA1 (a:Rat) (k:Nat) (way z c:Int) (D DG r:ByteArray) (va1 va2:Value) (w:World) (HM:Hid (rnd way (a*(((10 ^ k:Nat):Int):Rat))=z)) (hk:k≤100) (hw1:1≤way) (hw2:way≤3) (hs:rz a≤800) (HNG:Hid (¬ z<0)) (HD:Hid ((⟨(Lib.decDigits z.natAbs).toArray⟩:ByteArray)=D)) (hD:D.size≤100000) (HCC:Hid ((k:Int)+1 - (D.size:Int)=c)) (HDG:Hid (zpad c.toNat D=DG)) (hdz:k+1≤DG.size) (hdz2:DG.size≤200000) (HRR:Hid (wrt (⟨#[]⟩:ByteArray) DG k=r)) (bx21:Rn w va1 a.num.natAbs) (bx22:Rn w va2 (a.den - 1)) :
  CB 182 #[.agg #[.bool (decide (a.num<0)),va1,va2],.int .i64 (((k:Nat):Int)),.int .i64 way] w ((.tuple #[.string r,.int .i64 0])):=by
 obtain ⟨ao_va1,n_va1,c_va1,rfl⟩:=Rn.sl bx21
 obtain ⟨ao_va2,n_va2,c_va2,rfl⟩:=Rn.sl bx22
 go_enter Tryz.func182,Tryz.ntmps182
 have I:=lh_ (hp0 w)
 replace I:=lh_ ((I.out.ar bx21).ar bx22)
 simp only [lF,lG] at I
 clear bx21 bx22
 refine kSl fun K O=>?_;go_wp2
 refine kF_ O (al1_ I) fun Wx0 J=>?_;clear O K
 clear I;have I:=J;clear J
 have HZ1:Hid (rnd way (a*(((10 ^ k:Nat):Int):Rat))=z):=lh_ (HM.out)
 have su1:tw z.natAbs≤910:=by have e:=HZ1.out;first|omega|(rw [← e];exact qz8 om om)
 have lx23:=kc2_ I
 refine kS fun K O=>?_
 have HG0:Hid (Gr Wx0 Wx0):=lh_ (Gr.refl _)
 refine qx6 fun T Y=>?_
 refine tk3_ ?_
 refine ce1 Tryz.call246 HG0 (fun w' hw=>xe2 way a k z _ _ _ om om HZ1.out om om (I.out.r 0 rfl (HG0.out.trans hw)) (I.out.r 1 rfl (HG0.out.trans hw))) ?_;clear HG0;intro vv25 HG0 _ ao1 nn1 cc1 RN25
 clear lx23;have lx23:=fun w' (h:Gr _ w')=>kc2_ I w' (HG0.out.trans h)
 refine tk3_ ?_
 refine qa0 (Y.out _ _ ?_)
 intro vw1 hg
 simp only [puts,Act.put,lA,lB,lC,lD,lE,↓reduceIte,Nat.reduceEqDiff]
 have J:=lh_ ((I.out.gr (HG0.out.trans hg)).ar (RN25.out.gr hg))
 simp only [zq1_,zq2_,zq3_,zq4_,lF,lG] at J
 clear Y T I hg HG0 RN25 lx23
 go_wp2
 refine kF_ O (((((J.out).aL (vw1.heap.size)).er 2).er 1).er 0) fun Wx1 I=>?_;clear O K
 clear J
 generalize vw1.heap.size=gx26 at *
 refine wp_seq ?_
 refine ks2_ fun K O T Y=>?_
 refine tk2_ ?_
 refine nz Y I O ?_;clear Y T I O K;intro vw2 I
 refine wp_cond_false (by rfl) ?_
 refine wp_skip ?_
 show Code.wp _ _ _ _ _
 have lx26:=kc1_ I
 refine ks4_ fun K O T Y=>?_
 refine tk2_ ?_
 refine ck Tryz.call177 (fun w' hw=>qQ3 _ z.natAbs D _ HD.out (I.out.r 0 rfl hw) om) ?_
 refine tk ?_
 refine nz Y I O ?_;clear Y T I lx26 O K;intro vw3 I
 refine wp_seq ?_
 refine wp_block ?_
 go_loopg [10] c.toNat (fun k iv wr=>∃ (i:Nat) (s:ByteArray),iv=.string s∧i+k=c.toNat∧Hid (zpad i D=s)∧Hid (HP w wr [Sum.inr ((.slice ao1 nn1 cc1),Int.natAbs z),Sum.inl (gx26,45,#[.bool (z<0),(.slice ao1 nn1 cc1)])]))
 case atStart=>exact ⟨0,D,rfl,by omega,lh_ rfl,I⟩
 case round =>
  rename_i J_ K_ h1_ h0_
  clear I
  obtain ⟨i,s,rfl,hik,HS,I⟩:=hrel
  have hsz:s.size=D.size+i:=by rw [← HS.out,qk6]
  have hc0:=HCC.out
  rcases gk with _|k'
  ·obtain rfl:i=c.toNat:=by omega
   obtain rfl:s=DG:=by rw [← HS.out,← HDG.out]
   have HLT:Hid (¬ ((s.size:Int)<(k:Int)+1)):=lh_ om
   clear hsz hc0 HS
   refine wp_seq ?_
   have hwk:IntKind.i64.wrap ((k:Int)+1)=(k:Int)+1:=by rw [IntKind.wrap_i64];omega
   have hlt9:¬ ((s.size:Int)<(k:Int)+1):=HLT.out
   refine ks5_ fun K O T Y=>?_
   iterate 5 refine tk ?_
   refine nz Y I O ?_;clear Y T I O K;intro vw4 I
   clear hwk hlt9
   refine wp_cond_false (by rfl) ?_
   refine wp_exit ?_
   show Code.wp _ _ _ _ _
   refine wp_seq ?_
   rcases Nat.eq_zero_or_pos k with hk0|hk0
   ·have HR:Hid (s=r):=lh_ (by have e:=HRR.out;unfold wrt at e;rw [if_pos hk0] at e;exact ((xc2 _).symm.trans e))
    obtain rfl:=HR.out
    have HK:=lh_ hk0
    clear hk0
    have hkg:¬ (0<k):=by have:=HK.out;omega
    refine ks2_ fun K O T Y=>?_
    refine tk2_ ?_
    refine nz Y I O ?_;clear Y T I O K;intro vw5 I
    clear hkg
    refine wp_cond_false (by rfl) ?_
    refine wp_skip ?_
    show Code.wp _ _ _ _ _
    refine wp_seq ?_
    have hd1:decide (z<0)=false:=decide_eq_false (by (have e:=HNG.out;omega))
    have lx26:=kc1_ I
    refine ks2_ fun K O T Y=>?_
    refine tk2_ ?_
    refine nzR Y O (fun w2 hg=>((I.out.gr hg).er 1).er 0) ?_;clear Y T I lx26 O K;intro Wx9 I
    clear hd1
    refine wp_cond_false (by rfl) ?_
    refine wp_skip ?_
    show Code.wp _ _ _ _ _
    refine ks3_ fun K O T Y=>?_
    refine tk3_ ?_
    refine nz Y I O ?_;clear Y T I O K;intro vw7 I
    refine wp_ret ?_
    try simp only [Exit.then,Exit.inBlock]
    exact bR ⟨rfl,I.out.1⟩ xh5
   obtain ⟨b,hb⟩:∃ b,b+k=s.size:=⟨s.size - k,by omega⟩
   obtain ⟨r1,HR1⟩:=ex_ (s.extract 0 b)
   obtain ⟨t1,HC1⟩:=ex_ (r1 ++ (⟨#[46]⟩:ByteArray))
   obtain ⟨r2,HR2⟩:=ex_ (s.extract b s.size)
   obtain ⟨u,HC2⟩:=ex_ (t1 ++ r2)
   have hz1:r1.size≤200000:=by rw [← HR1.out];simp;omega
   have hz2:r2.size≤200000:=by rw [← HR2.out];simp;omega
   have hz3:t1.size≤200001:=by rw [← HC1.out,ql7];have:(⟨#[46]⟩:ByteArray).size=1:=rfl;omega
   have hz4:u.size≤400001:=by rw [← HC2.out,ql7];omega
   have HR:Hid (u=r):=lh_ (by have e:=HRR.out;unfold wrt at e;rw [if_neg om,show s.size - k=b by omega,HR1.out,HR2.out] at e;rw [← HC2.out,← HC1.out];rw [xc2] at e;rw [← e] <;> simp only [ByteArray.append_assoc])
   obtain rfl:=HR.out
   have HK:=lh_ hk0
   clear hk0
   have hkg:0<k:=HK.out
   refine ks2_ fun K O T Y=>?_
   refine tk2_ ?_
   refine nz Y I O ?_;clear Y T I O K;intro vw5 I
   clear hkg
   refine wp_cond_true (by rfl) ?_
   have hwa:IntKind.i64.wrap ((s.size:Int) - (k:Int))=(b:Int):=by rw [IntKind.wrap_i64];omega
   have hsl1:s.extract 0 b=r1:=HR1.out
   have hcl1:(b:Int)≤(s.size:Int):=by omega
   have hlen1:¬ (9223372036854775807<r1.size+1):=by omega
   have hcat1:r1 ++ (⟨#[46]⟩:ByteArray)=t1:=HC1.out
   have hsl2:s.extract b s.size=r2:=HR2.out
   have hlen2:¬ (9223372036854775807<t1.size+r2.size):=by omega
   have hcat2:t1 ++ r2=u:=HC2.out
   refine kL fun K O=>?_
   refine xI0 fun T Y=>?_
   iterate 14 refine tk ?_
   refine nlD Y I fun vw6 J=>?_
   clear Y T I
   go_wp2
   refine kO O ?_;clear O K
   have I:=J;clear J
   clear hwa hsl1 hcl1 hlen1 hcat1 hsl2 hlen2 hcat2
   refine wp_seq ?_
   have hd1:decide (z<0)=false:=decide_eq_false (by (have e:=HNG.out;omega))
   have lx26:=kc1_ I
   refine ks2_ fun K O T Y=>?_
   refine tk2_ ?_
   refine nzR Y O (fun w2 hg=>((I.out.gr hg).er 1).er 0) ?_;clear Y T I lx26 O K;intro Wx9 I
   clear hd1
   refine wp_cond_false (by rfl) ?_
   refine wp_skip ?_
   show Code.wp _ _ _ _ _
   refine ks3_ fun K O T Y=>?_
   refine tk3_ ?_
   refine nz Y I O ?_;clear Y T I O K;intro vw8 I
   refine wp_ret ?_
   try simp only [Exit.then,Exit.inBlock]
   exact bR ⟨rfl,I.out.1⟩ xh5
  obtain ⟨s',HS'⟩:∃ q,Hid ((⟨#[48]⟩:ByteArray) ++ s=q):=⟨_,lh_ rfl⟩
  have HLT:Hid ((s.size:Int)<(k:Int)+1):=lh_ om
  have hsz2:s.size≤200000:=by omega
  clear hsz hc0
  refine wp_seq ?_
  have hwk:IntKind.i64.wrap ((k:Int)+1)=(k:Int)+1:=by rw [IntKind.wrap_i64];omega
  have hlt9:(s.size:Int)<(k:Int)+1:=HLT.out
  refine ks5_ fun K O T Y=>?_
  iterate 5 refine tk ?_
  refine nz Y I O ?_;clear Y T I O K;intro vw4 I
  clear hwk hlt9
  refine wp_cond_true (by rfl) ?_
  refine wp_skip ?_
  show Code.wp _ _ _ _ _
  refine wp_block ?_
  have hlen1:¬ (9223372036854775807<1+s.size):=by omega
  have hcat1:(⟨#[48]⟩:ByteArray) ++ s=s':=HS'.out
  refine kL fun K O=>?_
  refine sq3_ fun T Y=>?_
  refine tk3_ ?_
  refine nlS Y I fun vw5 J=>?_
  clear Y T I
  go_wp2
  refine O.out _ _ ?_;clear O K
  try simp only [Exit.then,Exit.inBlock]
  have I:=lh_ (J.out);clear J
  clear hlen1 hcat1
  refine h0_ _ _ ?_
  go_roundg k'
  case measure=>omega
  case rel=>exact ⟨i+1,s',rfl,by omega,lh_ (by rw [← HS'.out,← HS.out];rfl),lh_ (I.out)⟩
theorem qU7 (a:Rat) (n way c z0:Int) (va1 va2:Value) (w:World) (HC:Hid (qh5 n way=c)) (hc0:¬ c=0) (HZ0:Hid ((0:Int)=z0)) (bx21:Rn w va1 a.num.natAbs) (bx22:Rn w va2 (a.den - 1)) :
  CB 182 #[.agg #[.bool (decide (a.num<0)),va1,va2],.int .i64 n,.int .i64 way] w ((.tuple #[.string ⟨#[]⟩,.int .i64 c])):=by
 obtain ⟨ao_va1,n_va1,c_va1,rfl⟩:=Rn.sl bx21
 obtain ⟨ao_va2,n_va2,c_va2,rfl⟩:=Rn.sl bx22
 go_enter Tryz.func182,Tryz.ntmps182
 have I:=lh_ (hp0 w)
 replace I:=lh_ ((I.out.ar bx21).ar bx22)
 simp only [lF,lG] at I
 clear bx21 bx22
 refine kSl fun K O=>?_;go_wp2
 refine kF_ O (al1_ I) fun Wx0 J=>?_;clear O K
 clear I;have I:=J;clear J
 have HZ1:Hid ((0:Int)=z0):=lh_ (HZ0.out)
 have su1:tw z0.natAbs≤1:=by have e:=HZ1.out;first|omega|(rw [← e];exact qc0.2 (by decide +kernel))
 have lx23:=kc2_ I
 refine kS fun K O=>?_
 have HG0:Hid (Gr Wx0 Wx0):=lh_ (Gr.refl _)
 refine qx6 fun T Y=>?_
 refine tk3_ ?_
 refine ce1 Tryz.call246 HG0 (fun w' hw=>qz5 a n way c z0 _ _ _ (HC.out) hc0 HZ1.out (I.out.r 0 rfl (HG0.out.trans hw)) (I.out.r 1 rfl (HG0.out.trans hw))) ?_;clear HG0;intro vv25 HG0 _ ao1 nn1 cc1 RN25
 clear lx23;have lx23:=fun w' (h:Gr _ w')=>kc2_ I w' (HG0.out.trans h)
 refine tk3_ ?_
 refine qa0 (Y.out _ _ ?_)
 intro vw1 hg
 simp only [puts,Act.put,lA,lB,lC,lD,lE,↓reduceIte,Nat.reduceEqDiff]
 have J:=lh_ ((I.out.gr (HG0.out.trans hg)).ar (RN25.out.gr hg))
 simp only [zq1_,zq2_,zq3_,zq4_,lF,lG] at J
 clear Y T I hg HG0 RN25 lx23
 go_wp2
 refine kF_ O (((((J.out).aL (vw1.heap.size)).er 2).er 1).er 0) fun Wx1 I=>?_;clear O K
 clear J
 generalize vw1.heap.size=gx26 at *
 refine wp_seq ?_
 have hd1:(c == (0))=false:=by have:¬ (c=0):=(ok);simpa using this
 have hd2:(c != (0))=true:=by have:¬ (c=0):=(ok);simpa using this
 refine ks2_ fun K O T Y=>?_
 refine tk2_ ?_
 refine nz Y I O ?_;clear Y T I O K;intro vw2 I
 clear hd1 hd2
 refine wp_cond_true (by rfl) ?_
 refine ks3_ fun K O T Y=>?_
 refine tk3_ ?_
 refine nz Y I O ?_;clear Y T I O K;intro vw3 I
 refine wp_ret ?_
 try simp only [Exit.then,Exit.inBlock]
 exact bR ⟨rfl,I.out.1⟩ xh5
theorem xz_ (way:Int) (a:Rat) (k:Nat) (r:ByteArray) (va1 va2:Value) (w:World) (hr:dtx (rnd way (a*(((10 ^ k:Nat):Int):Rat))) k=r) (hw1:1≤way) (hw2:way≤3) (hk:k≤100) (hs:rz a≤800) (h1:Rn w va1 a.num.natAbs) (h2:Rn w va2 (a.den - 1)) :
  CB 182 #[.agg #[.bool (decide (a.num<0)),va1,va2],.int .i64 ((k:Nat):Int),.int .i64 way] w (.tuple #[.string r,.int .i64 0]):=by
 have e1:=qz8 (way:=way) hk hs
 have e4:=qE0 (n:=Int.natAbs (rnd way (a*(((10 ^ k:Nat):Int):Rat)))) (k:=910) om
 have e5:=qM5 (Int.natAbs (rnd way (a*(((10 ^ k:Nat):Int):Rat)))) k
 have e6:=qM3 (Int.natAbs (rnd way (a*(((10 ^ k:Nat):Int):Rat)))) k
 unfold dtx at hr
 by_cases hn:rnd way (a*(((10 ^ k:Nat):Int):Rat))<0
 ·rw [if_pos hn] at hr
  exact xA0 a k way _ _ _ _ r va1 va2 w (lh_ rfl) hk hw1 hw2 hs (lh_ hn) (lh_ rfl) om (lh_ rfl) (lh_ rfl) e5 (by unfold dig at e6;omega) (lh_ hr) h1 h2
 rw [if_neg hn] at hr
 exact xA1 a k way _ _ _ _ r va1 va2 w (lh_ rfl) hk hw1 hw2 hs (lh_ hn) (lh_ rfl) om (lh_ rfl) (lh_ rfl) e5 (by unfold dig at e6;omega) (lh_ hr) h1 h2
theorem qG1 (a:Rat) (n way c:Int) (va1 va2:Value) (w:World) (hc:qh5 n way=c) (h0:¬ c=0) (h1:Rn w va1 a.num.natAbs) (h2:Rn w va2 (a.den - 1)) :
  CB 182 #[.agg #[.bool (decide (a.num<0)),va1,va2],.int .i64 n,.int .i64 way] w (.tuple #[.string ⟨#[]⟩,.int .i64 c]):=qU7 a n way c _ va1 va2 w (lh_ hc) h0 (lh_ rfl) h1 h2
theorem qx0 (a z:Rat) (n way c:Int) (va1 va2:Value) (w:World) (hc:qh5 n way=c) (h0:¬ c=0) (hz:(0:Rat)=z) (h1:Rn w va1 a.num.natAbs) (h2:Rn w va2 (a.den - 1)) :
  Calls Tryz.prog 181 #[.agg #[.bool (decide (a.num<0)),va1,va2],.int .i64 n,.int .i64 way] w fun e w'=>(∃ r1 r2:Value,e=.returned (.tuple #[(.agg #[.bool (decide (z.num<0)),r1,r2]),.int .i64 c])∧Rn w' r1 z.num.natAbs∧Rn w' r2 (z.den - 1))∧Gr w w':=hz ▸ qU5 a n way c va1 va2 w hc h0 h1 h2
theorem qw0 (a z:Rat) (n way c:Int) (w:World) (hc:qh5 n way=c) (h0:¬ c=0) (hz:(0:Rat)=z) (hs:sz a≤900) :
  CB 168 #[(Value.agg #[.int .u64 (lo a.num.natAbs),.string (bg a.num.natAbs),.bool (a.num<0),.int .u64 (lo (a.den - 1)),.string (bg (a.den - 1))]),.int .i64 n,.int .i64 way] w (.tuple #[(Value.agg #[.int .u64 (lo z.num.natAbs),.string (bg z.num.natAbs),.bool (z.num<0),.int .u64 (lo (z.den - 1)),.string (bg (z.den - 1))]),.int .i64 c]):=hz ▸ qR6 a n way c w hc h0 hs
theorem xJ7 {way:Int} {a:Rat} {k M:Nat} (hk:k≤100) (h:rz a≤M):rz (rdd way a k)≤M+136:=by
 have e1:=qz8 (way:=way) hk h
 have e2:=qx2 hk
 unfold rdd
 have e3:tw (10 ^ k)≤26:=Nat.le_trans (qc2 (Nat.pow_le_pow_right (by decide) hk)) (qc0.2 (by decide +kernel))
 exact qm9 om om om
end Go.Proofs.YtobojnodohjiaaaGreatDoor
