/- A pack of texts: CutS, FParse. No condition but those stated. -/
import Derived.Test.YtobojnodohjiaaaGreatDoorDecA
import Derived.Test.YtobojnodohjiaaaGreatDoorFieldP
import Derived.Test.YtobojnodohjiaaaGreatDoorHp
import Derived.Test.YtobojnodohjiaaaGreatDoorShelf
import Derived.Lib.IndexLaws
import Derived.Test.YtobojnodohjiaaaGreatDoorIntE
import Derived.Test.YtobojnodohjiaaaGreatDoorPJ
import Derived.Test.YtobojnodohjiaaaGreatDoorPV
set_option maxRecDepth 100000
set_option maxHeartbeats 16000000
set_option linter.unusedVariables false
set_option linter.unusedSimpArgs false
namespace Go.Proofs.YtobojnodohjiaaaGreatDoor
open Go.RowKit
attribute [local go_sem ↓] Go.wp_at_zero Go.wp_at_succ
attribute [local go_sem ↓] eq_nat eq_nat_zero eq_int
theorem xv8 (a z:Rat) (k:Nat) (way m:Int) (w:World) (HM:Hid (rnd way (a*(((10 ^ k:Nat):Int):Rat))=m)) (HZ:Hid (mkRat m (10 ^ k)=z)) (hk:k≤100) (hw1:1≤way) (hw2:way≤3) (hs:sz a≤900) :
  CB 168 #[(Value.agg #[.int .u64 (lo a.num.natAbs),.string (bg a.num.natAbs),.bool (a.num<0),.int .u64 (lo (a.den - 1)),.string (bg (a.den - 1))]),.int .i64 (((k:Nat):Int)),.int .i64 way] w (.tuple #[(.agg #[.int .u64 (lo z.num.natAbs),.string (bg z.num.natAbs),.bool (z.num<0),.int .u64 (lo (z.den - 1)),.string (bg (z.den - 1))]),.int .i64 0]):=by
 go_enter Tryz.func168,Tryz.ntmps168
 have I:=lh_ (hp0 w)
 refine kSl fun K O=>?_;go_wp2
 refine kF_ O (al2_ I) fun Wx0 J=>?_;clear O K
 clear I;have I:=J;clear J
 generalize w.heap.size+1=gx1 at *
 have HZ1:Hid (rnd way (a*(((10 ^ k:Nat):Int):Rat))=m):=lh_ (HM.out)
 have su1:wl m.natAbs≤914:=by have e:=HZ1.out;first|omega|(rw [← e];have e1:=qG9 way (a*(((10 ^ k:Nat):Int):Rat));have e2:=qe2 a (((10 ^ k:Nat):Int):Rat);have e3:=qo5 (k:=k) om;omega)
 have lx0:=kc0_ I
 refine ks7_ fun K O T Y=>?_
 refine tk3_ ?_
 refine ck Tryz.call239 (fun w' hw=>qM_ way a k m _ om om HZ1.out om om) ?_
 refine tk3_ ?_
 refine nlS Y I fun vw1 J=>?_
 clear Y T I lx0
 go_wp2
 refine kF_ O (((J.out).aL (vw1.heap.size)).er 0) fun Wx1 I=>?_;clear O K
 clear J
 generalize vw1.heap.size=gx3 at *
 refine wp_seq ?_
 refine ks2_ fun K O T Y=>?_
 refine tk2_ ?_
 refine nz Y I O ?_;clear Y T I O K;intro vw2 I
 refine wp_cond_false (by rfl) ?_
 refine wp_skip ?_
 show Code.wp _ _ _ _ _
 have HZ2:Hid (mkRat m (10 ^ k)=z):=lh_ (HZ.out)
 have su2:sz z≤914:=by have e:=HZ2.out;first|omega|(rw [← e];exact qe1 (k:=914) om (Nat.le_trans (qi3 om) (by decide)) (by decide))
 have lx3:=kc1_ I
 refine ks3_ fun K O T Y=>?_
 refine tk2_ ?_
 refine ck Tryz.call240 (fun w' hw=>xv1 m k _ z _ (lh_ rfl) (lh_ (Nat.pow_pos (by decide))) (lh_ HZ2.out) om om) ?_
 refine nlS Y I fun vw3 J=>?_
 clear Y T I lx3
 have lx1:=kc0_ J;have fx1:=kf0_ J
 have r0:=Gr.refl vw3
 go_wp2
 refine kO O ?_;clear O K
 clear r0 lx1 fx1
 refine fH (((((J.out).put2 0 0 rfl).put2 0 2 rfl).put 0 4 _ rfl).er 1) fun Wx4 I=>?_
 clear J
 refine wp_ret ?_
 try simp only [Exit.then,Exit.inBlock]
 have lx1:=kc0_ I
 have r0:=Gr.refl Wx4
 exact bR ⟨rfl,I.out.1⟩ (by simp [results,Tryz.results168,go_sem,lx1 _ r0])
theorem qI3 (a:Rat) (n way c:Int) (w:World) (HC:Hid (qh5 n way=c)) (hc0:¬ c=0) (hs:sz a≤900) :
  CB 168 #[(Value.agg #[.int .u64 (lo a.num.natAbs),.string (bg a.num.natAbs),.bool (a.num<0),.int .u64 (lo (a.den - 1)),.string (bg (a.den - 1))]),.int .i64 n,.int .i64 way] w ((.tuple #[(.agg #[.int .u64 0,.string ⟨#[]⟩,.bool false,.int .u64 0,.string ⟨#[]⟩]),.int .i64 c])):=by
 go_enter Tryz.func168,Tryz.ntmps168
 have I:=lh_ (hp0 w)
 refine kSl fun K O=>?_;go_wp2
 refine kF_ O (al2_ I) fun Wx0 J=>?_;clear O K
 clear I;have I:=J;clear J
 generalize w.heap.size+1=gx1 at *
 have lx0:=kc0_ I
 refine ks7_ fun K O T Y=>?_
 refine tk3_ ?_
 refine ck Tryz.call239 (fun w' hw=>qM9 a n way c _ (HC.out) hc0 om) ?_
 refine tk3_ ?_
 refine nlS Y I fun vw1 J=>?_
 clear Y T I lx0
 go_wp2
 refine kF_ O (((J.out).aL (vw1.heap.size)).er 0) fun Wx1 I=>?_;clear O K
 clear J
 generalize vw1.heap.size=gx3 at *
 refine wp_seq ?_
 have hd1:(c == (0))=false:=by have:¬ (c=0):=(ok);simpa using this
 have hd2:(c != (0))=true:=by have:¬ (c=0):=(ok);simpa using this
 refine ks2_ fun K O T Y=>?_
 refine tk2_ ?_
 refine nz Y I O ?_;clear Y T I O K;intro vw2 I
 clear hd1 hd2
 refine wp_cond_true (by rfl) ?_
 refine ks2_ fun K O T Y=>?_
 refine tk2_ ?_
 refine nlS Y I fun vw3 J=>?_
 clear Y T I
 have lx1:=kc0_ J;have fx1:=kf0_ J
 have r0:=Gr.refl vw3
 go_wp2
 refine kO O ?_;clear O K
 clear r0 lx1 fx1
 refine fH ((((J.out).put2 0 0 rfl).put2 0 2 rfl).put 0 4 _ rfl) fun Wx3 I=>?_
 clear J
 refine wp_ret ?_
 try simp only [Exit.then,Exit.inBlock]
 have lx1:=kc0_ I
 have r0:=Gr.refl Wx3
 exact bR ⟨rfl,I.out.1⟩ (by simp [results,Tryz.results168,go_sem,lx1 _ r0])
theorem qd9 (way:Int) (a:Rat) (k:Nat) (z:Rat) (w:World) (hz:rdd way a k=z) (hw1:1≤way) (hw2:way≤3) (hk:k≤100) (hs:sz a≤900) :
  CB 168 #[(Value.agg #[.int .u64 (lo a.num.natAbs),.string (bg a.num.natAbs),.bool (a.num<0),.int .u64 (lo (a.den - 1)),.string (bg (a.den - 1))]),.int .i64 ((k:Nat):Int),.int .i64 way] w (.tuple #[(Value.agg #[.int .u64 (lo z.num.natAbs),.string (bg z.num.natAbs),.bool (z.num<0),.int .u64 (lo (z.den - 1)),.string (bg (z.den - 1))]),.int .i64 0]) :=
 xv8 a z k way _ w (lh_ rfl) (lh_ hz) hk hw1 hw2 hs
theorem qR6 (a:Rat) (n way c:Int) (w:World) (hc:qh5 n way=c) (h0:¬ c=0) (hs:sz a≤900) :
  CB 168 #[(Value.agg #[.int .u64 (lo a.num.natAbs),.string (bg a.num.natAbs),.bool (a.num<0),.int .u64 (lo (a.den - 1)),.string (bg (a.den - 1))]),.int .i64 n,.int .i64 way] w (.tuple #[(Value.agg #[.int .u64 (lo (Int.natAbs (((0:Rat)).num))),.string (bg (Int.natAbs (((0:Rat)).num))),.bool (decide ((((0:Rat)).num)<0)),.int .u64 (lo (((0:Rat)).den - 1)),.string (bg (((0:Rat)).den - 1))]),.int .i64 c]):=qI3 a n way c w (lh_ hc) h0 hs
theorem qh3 (a yl yh:Rat) (k:Nat) (w:World) (HLO:Hid (rdd 1 a k=yl)) (HHI:Hid (rdd 2 a k=yh)) (hk:k≤100) (hs:sz a≤900) :
  CB 169 #[(Value.agg #[.int .u64 (lo a.num.natAbs),.string (bg a.num.natAbs),.bool (a.num<0),.int .u64 (lo (a.den - 1)),.string (bg (a.den - 1))]),.int .i64 (((k:Nat):Int))] w (.tuple #[(.agg #[.int .u64 (lo yl.num.natAbs),.string (bg yl.num.natAbs),.bool (yl.num<0),.int .u64 (lo (yl.den - 1)),.string (bg (yl.den - 1))]),(.agg #[.int .u64 (lo yh.num.natAbs),.string (bg yh.num.natAbs),.bool (yh.num<0),.int .u64 (lo (yh.den - 1)),.string (bg (yh.den - 1))]),.int .i64 0]):=by
 go_enter Tryz.func169,Tryz.ntmps169
 have I:=lh_ (hp0 w)
 refine kSl fun K O=>?_;go_wp2
 refine kF_ O (al3_ I) fun Wx0 J=>?_;clear O K
 clear I;have I:=J;clear J
 generalize w.heap.size+1+1=gx2 at *
 generalize w.heap.size+1=gx1 at *
 have HZ1:Hid (rdd (1) a k=yl):=lh_ (HLO.out)
 have su1:sz yl≤913:=by have e:=HZ1.out;first|omega|(rw [← e];exact qb4 om om)
 have lx0:=kc0_ I
 refine ks6_ fun K O T Y=>?_
 refine tk2_ ?_
 refine ck Tryz.call168 (fun w' hw=>qd9 (1) a k yl _ HZ1.out om om om om) ?_
 refine tk3_ ?_
 refine nlS Y I fun vw1 J=>?_
 clear Y T I lx0
 have lx1:=kc1_ J;have fx1:=kf1_ J
 have r0:=Gr.refl vw1
 go_wp2
 refine kO O ?_;clear O K
 clear r0 lx1 fx1
 refine fH ((((J.out).put2 1 0 rfl).put2 1 2 rfl).put 1 4 _ rfl) fun Wx1 I=>?_
 clear J
 have HZ2:Hid (rdd (2) a k=yh):=lh_ (HHI.out)
 have su2:sz yh≤913:=by have e:=HZ2.out;first|omega|(rw [← e];exact qb4 om om)
 have lx0:=kc0_ I
 refine ks6_ fun K O T Y=>?_
 refine tk2_ ?_
 refine ck Tryz.call168 (fun w' hw=>qd9 (2) a k yh _ HZ2.out om om om om) ?_
 refine tk3_ ?_
 refine nlS Y I fun vw2 J=>?_
 clear Y T I lx0
 have lx2:=kc2_ J;have fx2:=kf2_ J
 have r0:=Gr.refl vw2
 go_wp2
 refine kO O ?_;clear O K
 clear r0 lx2 fx2
 refine fH (((((J.out).put2 2 0 rfl).put2 2 2 rfl).put 2 4 _ rfl).er 0) fun Wx2 I=>?_
 clear J
 have lx1:=kc0_ I;have fx1:=kf0_ I
 have lx2:=kc1_ I;have fx2:=kf1_ I
 have r0:=Gr.refl Wx2
 obtain ⟨d1_2,d2_1⟩:=I.out.ne 0 1 rfl rfl (by decide)
 refine kS fun K O=>?_
 go_region
 go_wp2
 refine kO O ?_;clear O K
 clear r0 lx1 fx1 lx2 fx2 d1_2 d2_1
 refine fH ((((((((I.out).put2 0 0 rfl).put2 0 2 rfl).put 0 4 _ rfl).put2 1 0 rfl).put2 1 2 rfl).put 1 4 _ rfl).gr ((Below.refl _ _).drew)) fun Wx3 J=>?_
 clear I;have I:=J;clear J
 refine wp_ret ?_
 try simp only [Exit.then,Exit.inBlock]
 have lx1:=kc0_ I
 have lx2:=kc1_ I
 have r0:=Gr.refl Wx3
 exact bR ⟨rfl,I.out.1⟩ (by simp [results,Tryz.results169,go_sem,lx1 _ r0,lx2 _ r0])
end Go.Proofs.YtobojnodohjiaaaGreatDoor

set_option maxRecDepth 100000
set_option maxHeartbeats 16000000
set_option linter.unusedVariables false
set_option linter.unusedSimpArgs false
namespace Go.Proofs.YtobojnodohjiaaaGreatDoor
open Go.RowKit
attribute [local go_sem ↓] Go.wp_at_zero Go.wp_at_succ
attribute [local go_sem ↓] eq_nat eq_nat_zero eq_int
def zpad:Nat→ByteArray→ByteArray
 | 0,d=>d
 | i+1,d=>(⟨#[48]⟩:ByteArray) ++ zpad i d
theorem ql7 (a b:ByteArray):(a ++ b).size=a.size+b.size:=ByteArray.size_append
theorem qk6:∀ i d,(zpad i d).size=d.size+i
 | 0,d=>rfl
 | i+1,d=>by rw [zpad,ql7,qk6 i d];have:(⟨#[48]⟩:ByteArray).size=1:=rfl;omega
def wrt (sg d:ByteArray) (p:Nat):ByteArray:=if p=0 then sg ++ d else sg ++ d.extract 0 (d.size - p) ++ (⟨#[46]⟩:ByteArray) ++ d.extract (d.size - p) d.size
def dig (n p:Nat):ByteArray:=zpad ((p:Int)+1 - ((⟨(Lib.decDigits n).toArray⟩:ByteArray).size:Int)).toNat ⟨(Lib.decDigits n).toArray⟩
def dtx (z:Int) (p:Nat):ByteArray:=wrt (if z<0 then ⟨#[45]⟩ else ⟨#[]⟩) (dig z.natAbs p) p
theorem qM5 (n p:Nat):p+1≤(dig n p).size:=by unfold dig;rw [qk6];omega
theorem qM3 (n p:Nat):(dig n p).size≤(⟨(Lib.decDigits n).toArray⟩:ByteArray).size+p+1:=by unfold dig;rw [qk6];omega
theorem qm1 {z:Int} {p:Nat} {l:List UInt8} {s:ByteArray} (h:Lib.decDigits z.natAbs=l) (e:wrt (if z<0 then ⟨#[45]⟩ else ⟨#[]⟩) (zpad ((p:Int)+1 - (l.length:Int)).toNat ⟨l.toArray⟩) p=s):dtx z p=s:=by
 unfold dtx dig
 rw [h]
 exact e
theorem xJ9 {z:Int} (h:¬ z<0):¬ sgI z<0:=by
 rcases Int.lt_trichotomy z 0 with h1|h1|h1
 ·exact absurd h1 h
 ·subst h1;decide
 rw [qP5 h1];decide
theorem xG0 (sg d r:ByteArray) (g1 g2:Nat) (w:World) (bx8:Bx w g1 3 #[.int .i64 0]) (bx9:Bx w g2 9 #[.string d]) (HR:Hid (sg ++ d=r)) (hd:d.size≤1000000) (hsg:sg.size≤1) :
  CB 241 #[.string sg,.pointer (some ⟨g1,0,none⟩),.pointer (some ⟨g2,0,none⟩)] w ((.string r)):=by
 go_enter Tryz.func241,Tryz.ntmps241
 have I:=lh_ (hp0 w)
 have BX8:=lh_ bx8;clear bx8
 have BX9:=lh_ bx9;clear bx9
 refine kSl fun K O=>?_;go_wp2
 refine kF_ O (I.out) fun Wx0 J=>?_;clear O K
 clear I;have I:=J;clear J
 refine wp_seq ?_
 have lx8:=(BX8.out.gr I.out.1).cells
 refine ks2_ fun K O T Y=>?_
 refine tk2_ ?_
 refine nz Y I O ?_;clear Y T I lx8 O K;intro vw1 I
 refine wp_cond_true (by rfl) ?_
 have hlen1:¬ (9223372036854775807<sg.size+d.size):=by omega
 have hcat1:sg ++ d=r:=HR.out
 have lx9:=(BX9.out.gr I.out.1).cells
 refine ks4_ fun K O T Y=>?_
 iterate 4 refine tk ?_
 refine nz Y I O ?_;clear Y T I lx9 O K;intro vw2 I
 clear hlen1 hcat1
 refine wp_ret ?_
 try simp only [Exit.then,Exit.inBlock]
 exact bR ⟨rfl,I.out.1⟩ (by simp [results,Tryz.results241,go_sem])
theorem xG1 (sg d r1 r2 t1 t2 r:ByteArray) (p a g1 g2:Nat) (w:World) (bx8:Bx w g1 3 #[.int .i64 (((p:Nat):Int))]) (bx9:Bx w g2 9 #[.string d]) (HP0:Hid (0<p)) (hpp:0<p) (hap:a+p=d.size) (HR1:Hid (d.extract 0 a=r1)) (HR2:Hid (d.extract a d.size=r2)) (HC1:Hid (sg ++ r1=t1)) (HC2:Hid (t1 ++ (⟨#[46]⟩:ByteArray)=t2)) (HC3:Hid (t2 ++ r2=r)) (hd:d.size≤1000000) (hz1:r1.size≤1000000) (hz2:r2.size≤1000000) (hz3:t1.size≤1000001) (hz4:t2.size≤1000002) (hsg:sg.size≤1) :
  CB 241 #[.string sg,.pointer (some ⟨g1,0,none⟩),.pointer (some ⟨g2,0,none⟩)] w ((.string r)):=by
 go_enter Tryz.func241,Tryz.ntmps241
 have I:=lh_ (hp0 w)
 have BX8:=lh_ bx8;clear bx8
 have BX9:=lh_ bx9;clear bx9
 refine kSl fun K O=>?_;go_wp2
 refine kF_ O (I.out) fun Wx0 J=>?_;clear O K
 clear I;have I:=J;clear J
 refine wp_seq ?_
 have hp0:((p:Int) == 0)=false:=by have h9:¬ ((p:Int)=0):=om;simpa using h9
 have lx8:=(BX8.out.gr I.out.1).cells
 refine ks2_ fun K O T Y=>?_
 refine tk2_ ?_
 refine nz Y I O ?_;clear Y T I lx8 O K;intro vw1 I
 clear hp0
 refine wp_cond_false (by rfl) ?_
 refine wp_skip ?_
 show Code.wp _ _ _ _ _
 have hwa:IntKind.i64.wrap ((d.size:Int) - (p:Int))=(a:Int):=by rw [IntKind.wrap_i64];omega
 have lx8:=(BX8.out.gr I.out.1).cells
 have lx9:=(BX9.out.gr I.out.1).cells
 refine ks5_ fun K O T Y=>?_
 iterate 5 refine tk ?_
 refine nz Y I O ?_;clear Y T I lx8 lx9 O K;intro vw2 I
 clear hwa
 have hsl1:d.extract 0 a=r1:=HR1.out
 have hcl1:(a:Int)≤(d.size:Int):=by omega
 have hlen1:¬ (9223372036854775807<sg.size+r1.size):=by omega
 have hcat1:sg ++ r1=t1:=HC1.out
 have hlen2:¬ (9223372036854775807<t1.size+1):=by omega
 have hcat2:t1 ++ (⟨#[46]⟩:ByteArray)=t2:=HC2.out
 have hsl2:d.extract a d.size=r2:=HR2.out
 have hlen3:¬ (9223372036854775807<t2.size+r2.size):=by omega
 have hcat3:t2 ++ r2=r:=HC3.out
 have lx9:=(BX9.out.gr I.out.1).cells
 refine kS fun K O=>?_
 refine pd2_ fun T Y=>?_
 iterate 10 refine tk ?_
 refine nlD Y I fun vw3 J=>?_
 clear Y T I lx9
 go_wp2
 refine kO O ?_;clear O K
 have I:=J;clear J
 clear hsl1 hcl1 hlen1 hcat1 hlen2 hcat2 hsl2 hlen3 hcat3
 refine wp_ret ?_
 try simp only [Exit.then,Exit.inBlock]
 exact bR ⟨rfl,I.out.1⟩ (by simp [results,Tryz.results241,go_sem])
theorem dtx1 (sg d r:ByteArray) (p g1 g2:Nat) (w:World) (bx8:Bx w g1 3 #[.int .i64 ((p:Nat):Int)]) (bx9:Bx w g2 9 #[.string d]) (hr:wrt sg d p=r) (hp:p+1≤d.size) (hd:d.size≤1000000) (hsg:sg.size≤1) :
  CB 241 #[.string sg,.pointer (some ⟨g1,0,none⟩),.pointer (some ⟨g2,0,none⟩)] w (.string r):=by
 unfold wrt at hr
 by_cases h0:p=0
 ·subst h0
  rw [if_pos rfl] at hr
  exact xG0 sg d r g1 g2 w bx8 bx9 (lh_ hr) hd hsg
 rw [if_neg h0] at hr
 have e1:(d.extract 0 (d.size - p)).size≤1000000:=by simp;omega
 have e2:(d.extract (d.size - p) d.size).size≤1000000:=by simp;omega
 have e3:(sg ++ d.extract 0 (d.size - p)).size≤1000001:=by rw [ql7];omega
 have e4:(sg ++ d.extract 0 (d.size - p) ++ (⟨#[46]⟩:ByteArray)).size≤1000002:=by rw [ql7];have:(⟨#[46]⟩:ByteArray).size=1:=rfl;omega
 exact xG1 sg d _ _ _ _ r p (d.size - p) g1 g2 w bx8 bx9 (lh_ om) om om (lh_ rfl) (lh_ rfl) (lh_ rfl) (lh_ rfl) (lh_ hr) hd e1 e2 e3 e4 hsg
theorem xF_ (a:Rat) (k:Nat) (way z c t:Int) (D DG r:ByteArray) (w:World) (HM:Hid (rnd way (a*(((10 ^ k:Nat):Int):Rat))=z)) (hk:k≤100) (hw1:1≤way) (hw2:way≤3) (hs:sz a≤900) (HD:Hid (⟨(Lib.decDigits (Int.natAbs z)).toArray⟩=D)) (hD:D.size≤100000) (HCC:Hid ((k:Int)+1 - (D.size:Int)=c)) (HDG:Hid (zpad c.toNat D=DG)) (HDZ:Hid (k+1≤DG.size)) (hdz:k+1≤DG.size) (hdz2:DG.size≤200000) (HTS:Hid (sgI z=t)) (HRR:Hid (wrt (if z<0 then (⟨#[45]⟩:ByteArray) else ⟨#[]⟩) DG k=r)) (HT:Hid (Tab w)) :
  CB 170 #[(Value.agg #[.int .u64 (lo a.num.natAbs),.string (bg a.num.natAbs),.bool (a.num<0),.int .u64 (lo (a.den - 1)),.string (bg (a.den - 1))]),.int .i64 (((k:Nat):Int)),.int .i64 way] w ((.tuple #[.string r,.int .i64 0])):=by
 have hc9:c≤101:=by have:=HCC.out;omega
 go_enter Tryz.func170,Tryz.ntmps170
 have I:=lh_ (hp0 w)
 refine kSl fun K O=>?_;go_wp2
 refine kO O ?_;clear O K
 obtain ⟨W1,HW1⟩:=ex_ (((w.alloc (.cells #[.int .u64 (lo a.num.natAbs),.string (bg a.num.natAbs),.bool (a.num<0),.int .u64 (lo (a.den - 1)),.string (bg (a.den - 1))] 36)).alloc (.cells #[.int .i64 (((k:Nat):Int))] 3)))
 rw [HW1.out]
 have BX0:Hid (Bx W1 (w.heap.size) 36 #[.int .u64 (lo a.num.natAbs),.string (bg a.num.natAbs),.bool (a.num<0),.int .u64 (lo (a.den - 1)),.string (bg (a.den - 1))]):=lh_ (by rw [← HW1.out];exact (Bx.at rfl).alloc _)
 have BX1:Hid (Bx W1 (w.heap.size+1) 3 #[.int .i64 (((k:Nat):Int))]):=lh_ (by rw [← HW1.out];exact Bx.at (by simp))
 have HBW:Hid (Below w.heap.size w W1):=lh_ (by rw [← HW1.out];exact ((Below.refl _ _).alloc (Nat.le_refl _) _).alloc (by simp) _)
 replace HT:=lh_ (HT.out.gr HBW.out)
 clear I;have I:=lh_ (hp0 W1);clear HW1
 have HZ1:Hid (rnd way (a*(((10 ^ k:Nat):Int):Rat))=z):=lh_ (HM.out)
 have su1:wl z.natAbs≤914:=by have e:=HZ1.out;first|omega|(rw [← e];have e1:=qG9 way (a*(((10 ^ k:Nat):Int):Rat));have e2:=qe2 a (((10 ^ k:Nat):Int):Rat);have e3:=qo5 (k:=k) om;omega)
 have lx0:=(BX0.out.gr I.out.1).cells
 have lx1:=(BX1.out.gr I.out.1).cells
 refine ks7_ fun K O T Y=>?_
 refine tk3_ ?_
 refine ck Tryz.call239 (fun w' hw=>qM_ way a k z _ om om HZ1.out om om) ?_
 refine tk3_ ?_
 refine nlS Y I fun vw1 J=>?_
 clear Y T I lx0 lx1
 go_wp2
 refine kF_ O ((J.out).aL (vw1.heap.size)) fun Wx1 I=>?_;clear O K
 clear J
 generalize vw1.heap.size=gx3 at *
 refine wp_seq ?_
 refine ks2_ fun K O T Y=>?_
 refine tk2_ ?_
 refine nz Y I O ?_;clear Y T I O K;intro vw2 I
 refine wp_cond_false (by rfl) ?_
 refine wp_skip ?_
 show Code.wp _ _ _ _ _
 have HB:=HPb I
 have lx3:=kc0_ I
 refine ks3_ fun K O T Y=>?_
 refine tk ?_
 refine ck Tryz.call100 (fun w' hw=>qk7 z _) ?_
 refine ck Tryz.call154 (fun w' hw=>xc3 z.natAbs D _ HD.out om (lh_ (HT.out.gr (Gr.trans HB.out hw)))) ?_
 refine nlS Y I fun vw3 J=>?_
 clear Y T I lx3 HB
 go_wp2
 refine kF_ O ((J.out).aL (vw3.heap.size)) fun Wx4 I=>?_;clear O K
 clear J
 generalize vw3.heap.size=gx4 at *
 refine wp_seq ?_
 have hwk:IntKind.i64.wrap ((k:Int)+1)=(k:Int)+1:=by rw [IntKind.wrap_i64];omega
 have hwc:IntKind.i64.wrap ((k:Int)+1 - (D.size:Int))=c:=by have e9:=HCC.out;rw [IntKind.wrap_i64];omega
 have lx4:=kc1_ I
 have lx1:=(BX1.out.gr I.out.1).cells
 refine ks6_ fun K O T Y=>?_
 iterate 6 refine tk ?_
 refine nz Y I O ?_;clear Y T I lx4 lx1 O K;intro vw4 I
 clear hwk hwc
 refine wp_block ?_
 go_loopg [30] c.toNat (fun k iv wr=>∃ (i:Nat) (s:ByteArray),iv=.int .i64 (i:Int)∧i+k=c.toNat∧Hid (zpad i D=s)∧Hid (HP W1 wr [Sum.inl (gx3,34,#[.int .u64 (lo z.natAbs),.string (bg z.natAbs),.bool (z<0)]),Sum.inl (gx4,9,#[.string s])]))
 case atStart=>exact ⟨0,D,rfl,by omega,lh_ rfl,I⟩
 case round =>
  rename_i J_ K_ h1_ h0_
  clear I
  obtain ⟨i,s,rfl,hik,HS,I⟩:=hrel
  have hsz:s.size≤200000:=by rw [← HS.out,qk6];omega
  rcases gk with _|k'
  ·have HI:Hid (i=c.toNat):=lh_ om
   obtain rfl:s=DG:=by rw [← HS.out,← HDG.out,HI.out]
   have hlt9:¬ ((i:Int)<c):=by omega
   refine ks1_ fun K O T Y=>?_
   refine tk ?_
   refine nz Y I O ?_;clear Y T I O K;intro vw5 I
   clear hlt9
   refine wp_seq ?_
   refine wp_cond_false (by rfl) ?_
   refine wp_exit ?_
   show Code.wp _ _ _ _ _
   refine ks2_ fun K O T Y=>?_
   refine tk2_ ?_
   refine nz Y I O ?_;clear Y T I O K;intro vw6 I
   refine wp_seq ?_
   by_cases hneg:z<0
   ·have HNG:=lh_ hneg
    have HR:Hid (wrt (⟨#[45]⟩:ByteArray) s k=r):=lh_ (by have e:=HRR.out;rwa [if_pos hneg] at e)
    clear hneg
    have htn:t<0:=by rw [← HTS.out,qG3 HNG.out];decide
    have lx3:=kc0_ I
    refine ks3_ fun K O T Y=>?_
    refine tk ?_
    refine ck Tryz.call101 (fun w' hw=>qq_ z t _ (HTS.out)) ?_
    refine tk ?_
    refine nzR Y O (fun w2 hg=>(I.out.gr hg).er 0) ?_;clear Y T I lx3 O K;intro Wx10 I
    clear htn
    refine wp_cond_true (by rfl) ?_
    have HB:=HPb I
    refine ks4_ fun K O T Y=>?_
    refine tk ?_
    refine qt7 rfl (by rfl) (by rfl) Tryz.call241 (fun w' hw=>dtx1 ⟨#[45]⟩ s r k (w.heap.size+1) gx4 _ (BX1.out.gr (Gr.trans HB.out hw)) ((I.out.bx 0 rfl).gr hw) HR.out om om (by decide)) (by rfl) ?_
    simp only [Act.put,lA,lB,lC]
    refine tk2_ ?_
    refine nz Y I O ?_;clear Y T I HB O K;intro vw8 I
    refine wp_ret ?_
    try simp only [Exit.then,Exit.inBlock]
    exact bR ⟨rfl,HBW.out.trans (I.out.1.mono HBW.out.size)⟩ (by simp [results,Tryz.results170,go_sem])
   have HNG:=lh_ hneg
   have HR:Hid (wrt (⟨#[]⟩:ByteArray) s k=r):=lh_ (by have e:=HRR.out;rwa [if_neg hneg] at e)
   clear hneg
   have htn:¬ t<0:=by rw [← HTS.out];exact xJ9 HNG.out
   have lx3:=kc0_ I
   refine ks3_ fun K O T Y=>?_
   refine tk ?_
   refine ck Tryz.call101 (fun w' hw=>qq_ z t _ (HTS.out)) ?_
   refine tk ?_
   refine nzR Y O (fun w2 hg=>(I.out.gr hg).er 0) ?_;clear Y T I lx3 O K;intro Wx10 I
   clear htn
   refine wp_cond_false (by rfl) ?_
   refine wp_skip ?_
   show Code.wp _ _ _ _ _
   have HB:=HPb I
   refine ks4_ fun K O T Y=>?_
   refine tk ?_
   refine qt7 rfl (by rfl) (by rfl) Tryz.call241 (fun w' hw=>dtx1 ⟨#[]⟩ s r k (w.heap.size+1) gx4 _ (BX1.out.gr (Gr.trans HB.out hw)) ((I.out.bx 0 rfl).gr hw) HR.out om om (by decide)) (by rfl) ?_
   simp only [Act.put,lA,lB,lC]
   refine tk2_ ?_
   refine nzR Y O (fun w2 hg=>(I.out.gr hg).er 0) ?_;clear Y T I HB O K;intro Wx12 I
   refine wp_ret ?_
   try simp only [Exit.then,Exit.inBlock]
   exact bR ⟨rfl,HBW.out.trans (I.out.1.mono HBW.out.size)⟩ (by simp [results,Tryz.results170,go_sem])
  obtain ⟨s',HS'⟩:∃ q,Hid ((⟨#[48]⟩:ByteArray) ++ s=q):=⟨_,lh_ rfl⟩
  have hlt9:(i:Int)<c:=by omega
  refine ks1_ fun K O T Y=>?_
  refine tk ?_
  refine nz Y I O ?_;clear Y T I O K;intro vw5 I
  clear hlt9
  refine wp_seq ?_
  refine wp_cond_true (by rfl) ?_
  refine wp_skip ?_
  show Code.wp _ _ _ _ _
  refine wp_seq ?_
  refine wp_block ?_
  have hlen1:¬ (9223372036854775807<1+s.size):=by omega
  have hcat1:(⟨#[48]⟩:ByteArray) ++ s=s':=HS'.out
  have lx4:=kc1_ I
  refine kL fun K O=>?_
  refine sq2_ fun T Y=>?_
  refine tk2_ ?_
  refine nlS Y I fun vw6 J=>?_
  clear Y T I lx4
  have lx4:=kc1_ J;have fx4:=kf1_ J
  have r0:=Gr.refl vw6
  go_wp2
  refine kO O ?_;clear O K
  clear r0 lx4 fx4
  refine fH ((J.out).put 1 0 _ rfl) fun Wx7 I=>?_
  clear J
  clear hlen1 hcat1
  have hwi:IntKind.i64.wrap ((i:Int)+1)=(i:Int)+1:=by rw [IntKind.wrap_i64];omega
  refine kL fun K O=>?_
  refine sq2_ fun T Y=>?_
  refine tk2_ ?_
  refine nlS Y I fun vw7 J=>?_
  clear Y T I
  go_wp2
  refine O.out _ _ ?_;clear O K
  try simp only [Exit.then,Exit.inBlock]
  have I:=lh_ (J.out);clear J
  clear hwi
  refine h0_ _ _ ?_
  go_roundg k'
  case measure=>omega
  case rel=>exact ⟨i+1,s',rfl,by omega,lh_ (by rw [← HS'.out,← HS.out];rfl),lh_ (I.out)⟩
theorem xv9 (way:Int) (a:Rat) (k:Nat) (r:ByteArray) (w:World) (hr:dtx (rnd way (a*(((10 ^ k:Nat):Int):Rat))) k=r) (hw1:1≤way) (hw2:way≤3) (hk:k≤100) (hs:sz a≤900) (HT:Hid (Tab w)) :
  CB 170 #[(Value.agg #[.int .u64 (lo a.num.natAbs),.string (bg a.num.natAbs),.bool (a.num<0),.int .u64 (lo (a.den - 1)),.string (bg (a.den - 1))]),.int .i64 ((k:Nat):Int),.int .i64 way] w (.tuple #[.string r,.int .i64 0]):=by
 have e1:=qG9 way (a*(((10 ^ k:Nat):Int):Rat))
 have e2:=qe2 a (((10 ^ k:Nat):Int):Rat)
 have e3:=qo5 (k:=k) om
 have e4:=qM1 (n:=(rnd way (a*(((10 ^ k:Nat):Int):Rat))).natAbs) (k:=914) om
 have e5:=qM5 (rnd way (a*(((10 ^ k:Nat):Int):Rat))).natAbs k
 have e6:=qM3 (rnd way (a*(((10 ^ k:Nat):Int):Rat))).natAbs k
 exact xF_ a k way _ _ _ _ _ r w (lh_ rfl) hk hw1 hw2 hs (lh_ rfl) om (lh_ rfl) (lh_ rfl) (lh_ e5) e5 (by unfold dig at e6;omega) (lh_ rfl) (lh_ hr) HT
end Go.Proofs.YtobojnodohjiaaaGreatDoor

set_option linter.unusedVariables false
set_option linter.unusedSimpArgs false
namespace Go.Proofs.YtobojnodohjiaaaGreatDoor
open Go.RowKit
def di (s:ByteArray):Int:=Lib.indexByte s.data.toList 46
def dup (s:ByteArray):ByteArray:=if 0≤di s then s.extract 0 (di s).toNat else s
def ddn (s:ByteArray):ByteArray:=if 0≤di s then s.extract ((di s).toNat+1) s.size else ⟨#[]⟩
def dtwo (s:ByteArray):Bool:=decide (0≤di s)
theorem qA4 (s:ByteArray):di s = -1∨∃ i:Nat,di s=(i:Int)∧i<s.size:=by
 have h:=Lib.indexByte_ge s.data.toList 46
 by_cases e:di s = -1
 ·exact .inl e
 obtain ⟨i,hi⟩:∃ i:Nat,di s=(i:Int):=⟨(di s).toNat,by unfold di at *; omega⟩
 have h2:=(Lib.indexByte_some hi).1
 refine .inr ⟨i,hi,?_⟩
 have h3:=(List.getElem?_eq_some_iff.1 h2).1
 simpa using h3
theorem qp4 (s:ByteArray):(dup s).size≤s.size:=by
 unfold dup;split
 ·simp;omega
 exact Nat.le_refl _
theorem qp0 (s:ByteArray):(ddn s).size≤s.size:=by
 unfold ddn;split
 ·simp
 exact Nat.zero_le _
theorem xb4 (s:ByteArray) (w:World) (hs:s.size≤9223372036854775807) :
  CB 236 #[.string s,.string ⟨#[46]⟩] w (.tuple #[.string (dup s),.string (ddn s),.bool (dtwo s)]):=by
 rcases qA4 s with h|⟨i,h,hi⟩
 ·have e1:dup s=s:=by unfold dup;rw [if_neg om]
  have e2:ddn s=⟨#[]⟩:=by unfold ddn;rw [if_neg om]
  have e3:dtwo s=false:=decide_eq_false om
  rw [e1,e2,e3]
  have H:=lh_ h
  clear h e1 e2 e3
  go_enter Tryz.func236,Tryz.ntmps236
  go_wp2_with fail
  refine (Tryz.stringslite_Index_one s 46 w).mono ?_
  rintro e w1 ⟨rfl,rfl⟩
  have h2:Lib.indexByte s.data.toList 46 = -1:=H.out
  rw [h2]
  go_wp2
  exact bR ⟨rfl,Below.refl _ _⟩ (by simp [results,Tryz.results236,go_sem])
 have e1:dup s=s.extract 0 i:=by unfold dup;rw [if_pos om,h];rfl
 have e2:ddn s=s.extract (i+1) s.size:=by unfold ddn;rw [if_pos om,h];rfl
 have e3:dtwo s=true:=decide_eq_true om
 rw [e1,e2,e3]
 have H:=lh_ h
 clear h e1 e2 e3
 go_enter Tryz.func236,Tryz.ntmps236
 go_wp2_with fail
 refine (Tryz.stringslite_Index_one s 46 w).mono ?_
 rintro e w1 ⟨rfl,rfl⟩
 have h2:Lib.indexByte s.data.toList 46=(i:Int):=H.out
 rw [h2]
 have hw1:IntKind.i64.wrap ((i:Int)+1)=((i+1:Nat):Int):=by rw [IntKind.wrap_i64];omega
 have hle:(i:Int)≤(s.size:Int):=by omega
 have hle2:((i+1:Nat):Int)≤(s.size:Int):=by omega
 go_wp2
 go_region
 go_wp2
 exact bR ⟨rfl,(Below.refl _ _).drew⟩ (by simp [results,Tryz.results236,go_sem])
theorem xj6 (s:ByteArray) (w:World) (hs:s.size≤9223372036854775807) :
  CB 162 #[.string s,.string ⟨#[46]⟩] w (.tuple #[.string (dup s),.string (ddn s),.bool (dtwo s)]):=by
 go_enter Tryz.func162,Tryz.ntmps162
 go_wp2_with fail
 refine (xb4 s w hs).mono ?_
 rintro e w1 ⟨rfl,hb⟩
 have HB:=lh_ hb
 clear hb
 go_wp2
 exact bR ⟨rfl,HB.out⟩ (by simp [results,Tryz.results162,go_sem])
end Go.Proofs.YtobojnodohjiaaaGreatDoor

set_option linter.unusedVariables false
set_option linter.unusedSimpArgs false
namespace Go.Proofs.YtobojnodohjiaaaGreatDoor
section
open Go.RowKit
theorem xm2 (s p:ByteArray) (w:World) :
  Calls Tryz.prog 235 #[.string s,.string p] w fun e w'=>e=.returned (.tuple #[.string ⟨(Lib.trimPrefix s.data.toList p.data.toList).toArray⟩,.bool (Lib.hasPrefix s.data.toList p.data.toList)])∧w'=w:=by
 by_cases h:Lib.hasPrefix s.data.toList p.data.toList=true
 ·have h0:=h
  rw [← Lib.hasPrefix_raw,Bool.and_eq_true,decide_eq_true_eq] at h0
  obtain ⟨h1,h2⟩:=h0
  rw [Lib.trimPrefix_hit s p h1 h2,h]
  have HP:=lh_ h
  clear h h2
  go_enter Tryz.func235,Tryz.ntmps235
  go_wp2_with fail
  refine (Tryz.stringslite_HasPrefix s p w).mono ?_
  rintro e w1 ⟨rfl,rfl⟩
  rw [HP.out]
  go_wp2
  go_ret2
  exact ⟨rfl,rfl⟩
 have h0:Lib.hasPrefix s.data.toList p.data.toList=false:=by simpa using h
 rw [Lib.trimPrefix_miss s p (by rw [Lib.hasPrefix_raw,h0]),h0]
 have HP:=lh_ h0
 clear h h0
 go_enter Tryz.func235,Tryz.ntmps235
 go_wp2_with fail
 refine (Tryz.stringslite_HasPrefix s p w).mono ?_
 rintro e w1 ⟨rfl,rfl⟩
 rw [HP.out]
 go_wp2
 go_ret2
 exact ⟨rfl,rfl⟩
theorem qY2 (s:ByteArray) (w:World) :
  Calls Tryz.prog 161 #[.string s,.string ⟨#[45]⟩] w fun e w'=>e=.returned (.tuple #[.string (idig s),.bool (ineg s)])∧w'=w:=by
 go_enter Tryz.func161,Tryz.ntmps161
 go_wp2_with fail
 refine (xm2 s _ w).mono ?_
 rintro e w1 ⟨rfl,rfl⟩
 go_wp2
 go_ret2
 exact ⟨rfl,rfl⟩
end
section
open Go.RowKit
attribute [local go_sem ↓] Go.wp_at_zero Go.wp_at_succ
attribute [local go_sem ↓] eq_nat eq_nat_zero eq_int
theorem cutm (s:ByteArray) (b:Bool) (w:World) (hb:ineg s=b) :
  CB 161 #[.string s,.string ⟨#[45]⟩] w (.tuple #[.string (idig s),.bool b]):=hb ▸ (qY2 s w).mono fun e w' ⟨h,hw⟩=>⟨h,by rw [hw];exact Below.refl _ _⟩
theorem xy6 (s:ByteArray) (L:Nat) (hL:L=4096):pnum s<10 ^ L:=by
 unfold pnum
 split
 ·rename_i h
  obtain ⟨h1,h2,h3,h4⟩:=h
  rw [xn5]
  have:=xP5 s.data.toList (fun c hc=>by
   obtain ⟨i,hi,rfl⟩:=List.getElem_of_mem hc
   have hi':i<s.size:=by simpa using hi
   rw [← qh2 s i hi']
   exact (h4 i hi').2)
  refine Nat.lt_of_lt_of_le this (Nat.pow_le_pow_right (by decide) ?_)
  rw [Array.length_toList,hL]
  exact h1
 exact Nat.pow_pos (by decide)
theorem xK4 (k:Nat):(10:Nat) ^ (8*k)≤bp k:=by
 unfold bp
 rw [Nat.pow_mul]
 exact Nat.pow_le_pow_left (by decide) k
theorem xy5 (s:ByteArray) (k:Nat) (h:8*k=4096):pnum s<bp k:=Nat.lt_of_lt_of_le (xy6 s _ h) (xK4 k)
end
section
open Go.RowKit
attribute [local go_sem ↓] Go.wp_at_zero Go.wp_at_succ
end
end Go.Proofs.YtobojnodohjiaaaGreatDoor

set_option linter.unusedVariables false
set_option linter.unusedSimpArgs false
namespace Go.Proofs.YtobojnodohjiaaaGreatDoor
section
open Go.RowKit
end
section
open Go.RowKit
attribute [local go_sem ↓] Go.wp_at_zero Go.wp_at_succ
attribute [local go_sem ↓] eq_nat eq_nat_zero eq_int
end
end Go.Proofs.YtobojnodohjiaaaGreatDoor
