
/- decimals.Parse. -/
import Derived.Test.YtobojnodohjiaaaGreatDoorPW
set_option maxRecDepth 100000
set_option maxHeartbeats 16000000
set_option linter.unusedVariables false
set_option linter.unusedSimpArgs false
namespace Go.Proofs.YtobojnodohjiaaaGreatDoor
open Go.RowKit
attribute [local go_sem ↓] Go.wp_at_zero Go.wp_at_succ
attribute [local go_sem ↓] eq_nat eq_nat_zero eq_int
theorem xJ_ {z:Int} (h:¬ z=0):¬ sgI z=0:=by
 rcases Int.lt_trichotomy z 0 with h1|h1|h1
 ·rw [qG3 h1];decide
 ·exact absurd h1 h
 rw [qP5 h1];decide
theorem xO7 (s d:ByteArray) (b:Bool) (w:World) (hd:idig s=d) (hb:ineg s=b) :
  CB 161 #[.string s,.string ⟨#[45]⟩] w (.tuple #[.string d,.bool b]):=hd ▸ cutm s b w hb
theorem qY9 (s up dn:ByteArray) (tw:Bool) (w:World) (h1:dup s=up) (h2:ddn s=dn) (h3:dtwo s=tw) (hs:s.size≤9223372036854775807) :
  CB 162 #[.string s,.string ⟨#[46]⟩] w (.tuple #[.string up,.string dn,.bool tw]):=h1 ▸ h2 ▸ h3 ▸ xj6 s w hs
theorem qO3 (s:ByteArray) (n:Nat) (c:Int) (w:World) (hn:pnum s=n) (hc:qi6 s=c) (hs:s.size≤9223372036854775807) :
  CB 163 #[.string s] w (.tuple #[.agg #[.int .u64 (lo n),.string (bg n)],.int .i64 c]):=xx_ s n c w hn hc hs
def dA (s:ByteArray):ByteArray:=dup (idig s)
def dB (s:ByteArray):ByteArray:=ddn (idig s)
def dO (s:ByteArray):ByteArray:=(⟨#[49]⟩:ByteArray) ++ dB s
def dM (s:ByteArray):Bool:=!(dtwo (idig s) == !(dB s).toList.isEmpty)
def dK (s:ByteArray):Nat:=pnum (dA s)*10 ^ (dB s).size+(pnum (dO s) - 10 ^ (dB s).size)
def dZ (s:ByteArray):Int:=if ineg s then -((dK s:Nat):Int) else ((dK s:Nat):Int)
def qg0 (s:ByteArray):Int:=if 4096<s.size then 3 else if qi6 (dA s)≠0 then 4 else if qi6 (dO s)≠0 then 4 else if dM s then 4 else if ineg s=true∧dK s=0 then 4 else 0
def dnum (s:ByteArray):Rat:=if qg0 s=0 then mkRat (dZ s) (10 ^ (dB s).size) else 0
theorem xv5 (s d up dn bh:ByteArray) (ng tw mm:Bool) (n m p y k0:Nat) (q e1 e2 c:Int) (z:Rat) (w:World) (hsz:s.size≤4096) (hd:d.size≤4096) (hup:up.size≤4096) (hdn:dn.size≤4096) (hbh:bh.size≤4097) (HDG:Hid (idig s=d)) (HNG:Hid (ineg s=ng)) (HUP:Hid (dup d=up)) (HDN:Hid (ddn d=dn)) (HTW:Hid (dtwo d=tw)) (HBH:Hid ((⟨#[49]⟩:ByteArray) ++ dn=bh)) (HPN:Hid (pnum up=n)) (HPC:Hid (qi6 up=e1)) (HQN:Hid (pnum bh=m)) (HQC:Hid (qi6 bh=e2)) (hwn:wl n≤600) (hwm:wl m≤600) (HM0:Hid ((!(tw == !dn.toList.isEmpty))=mm)) (HP:Hid (10 ^ dn.size=p)) (HP0:Hid (0<p)) (HPM:Hid (e2=0→p≤m)) (HY:Hid (m - p=y)) (HKK:Hid (n*p+y=k0)) (HQQ:Hid ((if ng then -((k0:Nat):Int) else ((k0:Nat):Int))=q)) (HC:Hid ((if e1≠0 then (4:Int) else if e2≠0 then 4 else if mm then 4 else if ng=true∧k0=0 then 4 else 0)=c)) (HZ:Hid ((if c=0 then mkRat q p else 0)=z)) :
  CB 63 #[.string s] w ((.tuple #[(Value.agg #[.int .u64 (lo z.num.natAbs),.string (bg z.num.natAbs),.bool (z.num<0),.int .u64 (lo (z.den - 1)),.string (bg (z.den - 1))]),.int .i64 c])):=by
 go_enter Tryz.func63,Tryz.ntmps63
 have I:=lh_ (hp0 w)
 refine kSl fun K O=>?_;go_wp2
 refine kF_ O (al1_ I) fun Wx0 J=>?_;clear O K
 clear I;have I:=J;clear J
 refine wp_seq ?_
 have hlt9:¬ (4096<(s.size:Int)):=by omega
 refine ks3_ fun K O T Y=>?_
 refine tk3_ ?_
 refine nz Y I O ?_;clear Y T I O K;intro vw1 I
 clear hlt9
 refine wp_cond_false (by rfl) ?_
 refine wp_skip ?_
 show Code.wp _ _ _ _ _
 refine ks7_ fun K O T Y=>?_
 refine tk ?_
 refine ck Tryz.call161 (fun w' hw=>xO7 s d ng _ HDG.out HNG.out) ?_
 iterate 5 refine tk ?_
 refine nz Y I O ?_;clear Y T I O K;intro vw2 I
 refine ks9_ fun K O T Y=>?_
 refine tk ?_
 refine ck Tryz.call162 (fun w' hw=>qY9 d up dn tw _ HUP.out HDN.out HTW.out om) ?_
 iterate 7 refine tk ?_
 refine nz Y I O ?_;clear Y T I O K;intro vw3 I
 refine ks5_ fun K O T Y=>?_
 refine tk ?_
 refine ck Tryz.call163 (fun w' hw=>qO3 up n e1 _ HPN.out HPC.out om) ?_
 refine tk3_ ?_
 refine nlS Y I fun vw4 J=>?_
 clear Y T I
 go_wp2
 refine kF_ O ((J.out).aL (vw4.heap.size)) fun Wx5 I=>?_;clear O K
 clear J
 generalize vw4.heap.size=gx2 at *
 have hlen1:¬ (9223372036854775807<1+dn.size):=by omega
 have hcat1:(⟨#[49]⟩:ByteArray) ++ dn=bh:=HBH.out
 refine ks6_ fun K O T Y=>?_
 refine tk2_ ?_
 refine ck Tryz.call163 (fun w' hw=>qO3 bh m e2 _ HQN.out HQC.out om) ?_
 refine tk3_ ?_
 refine nlS Y I fun vw5 J=>?_
 clear Y T I
 go_wp2
 refine kF_ O ((J.out).aL (vw5.heap.size)) fun Wx6 I=>?_;clear O K
 clear J
 generalize vw5.heap.size=gx3 at *
 clear hlen1 hcat1
 refine wp_seq ?_
 by_cases h1:e1=0
 ·have HE1:=lh_ h1
  by_cases h2:e2=0
  ·have HE2:=lh_ h2
   cases hmm:mm
   ·have HMM:=lh_ (HM0.out.trans hmm)
    have HMF:=lh_ hmm
    clear h1 h2 hmm
    have hx1:(e1 != 0)=false:=by rw [HE1.out];rfl
    have hx2:(e2 != 0)=false:=by rw [HE2.out];rfl
    have hx4:(!(tw == !dn.toList.isEmpty))=false:=HMM.out
    refine qw4 fun K O T Y=>?_
    iterate 12 refine tk ?_
    refine nz Y I O ?_;clear Y T I O K;intro vw6 I
    clear hx1 hx2 hx4
    refine wp_cond_false (by rfl) ?_
    refine wp_skip ?_
    show Code.wp _ _ _ _ _
    have su_0_9:wl 10≤1:=qa2.2 (by decide +kernel)
    have HZ1:Hid ((10) ^ dn.size=p):=lh_ (HP.out)
    have su1:wl p≤8192:=by have e:=HZ1.out;first|omega|(rw [← e];exact qm7 _ _ xr3)
    refine ks7_ fun K O T Y=>?_
    refine ck Tryz.call24 (fun w' hw=>nzof 10 _ (by decide)) ?_
    refine tk2_ ?_
    refine ck Tryz.call164 (fun w' hw=>qF4 (10) dn.size p _ HZ1.out om xr3 om) ?_
    refine tk3_ ?_
    refine nlS Y I fun vw7 J=>?_
    clear Y T I
    go_wp2
    refine kF_ O ((J.out).aL (vw7.heap.size)) fun Wx9 I=>?_;clear O K
    clear J
    generalize vw7.heap.size=gx4 at *
    have HZ2:Hid (m - p=y):=lh_ (HY.out)
    have su2:wl y≤600:=by have e:=HZ2.out;first|omega|(rw [← e];have:=xM0 m p;omega)
    have lx3:=kc2_ I
    have lx4:=kc3_ I
    refine ks6_ fun K O T Y=>?_
    refine tk2_ ?_
    refine ck Tryz.call165 (fun w' hw=>xP6 m p y _ HZ2.out (by exact HPM.out HE2.out) om om) ?_
    refine tk3_ ?_
    refine nlS Y I fun vw8 J=>?_
    clear Y T I lx3 lx4
    have lx3:=kc2_ J;have fx3:=kf2_ J
    have r0:=Gr.refl vw8
    go_wp2
    refine kO O ?_;clear O K
    clear r0 lx3 fx3
    refine fH ((J.out).put2 2 0 rfl) fun Wx10 I=>?_
    clear J
    obtain ⟨u3,HZ3⟩:=ex_ (n*(p))
    have su3:wl u3≤8792:=by rw [← HZ3.out];have:=qg8 n p;omega
    have HZ4:Hid (u3+(y)=k0):=lh_ (by rw [← HKK.out];simp only [← HZ3.out])
    have su4:wl k0≤8793:=by have e:=HZ4.out;first|omega|(rw [← e];have:=qt6 u3 y;omega)
    have HZ5:Hid ((if ng then -((k0:Nat):Int) else ((k0:Nat):Int))=q):=lh_ (HQQ.out)
    have su5:wl q.natAbs≤8793:=by have e:=HZ5.out;first|omega|(rw [← e];split <;> simp <;> omega)
    have lx2:=kc1_ I
    have lx3:=kc2_ I
    have lx4:=kc3_ I
    refine kS fun K O=>?_
    refine qa1 8 [7] [] (fun _=>15) (fun _=>.cells #[.int .u64 0,.string ⟨#[]⟩,.bool false] 34) [(true,0),(true,1),(true,2),(true,4),(true,3),(true,5),(true,6)] (by kernel_rfl) (by kernel_rfl) zb0_ (fun i hi=>by cases hi) (fun _ _ _ _ _ h=>h) (fun T Y=>?_)
    iterate 4 refine tk ?_
    refine ck Tryz.call110 (fun w' hw=>qT5 n p u3 _ HZ3.out om om) ?_
    refine ck Tryz.call109 (fun w' hw=>xx9 u3 y k0 _ HZ4.out om om) ?_
    refine ck Tryz.call37 (fun w' hw=>qa8 ng k0 q _ HZ5.out) ?_
    refine qa0 (Y.out _ _ ?_)
    intro G vw9 hg hf
    simp only [puts,Act.put,lA,lB,lC,lD,lE,↓reduceIte,Nat.reduceEqDiff]
    have J:=lh_ (I.out.fr hg hf (zs:=[(#[.int .u64 0,.string ⟨#[]⟩,.bool false],34)]) rfl (by decide) (by decide))
    simp only [zq1_,zq2_,zq3_,zq4_,lF,lG] at J
    clear Y T I hg hf lx2 lx3 lx4
    generalize G 7=gx5 at *
    have lx5:=kc4_ J;have fx5:=kf4_ J
    have r0:=Gr.refl vw9
    go_wp2
    refine kO O ?_;clear O K
    clear r0 lx5 fx5
    refine fH (((((J.out).put2 4 0 rfl).put 4 2 _ rfl).er 2).er 1) fun Wx11 I=>?_
    clear J
    refine wp_seq ?_
    cases hng:ng
    ·subst hng
     obtain rfl:c=0:=by rw [← HC.out,if_neg (fun h=>h HE1.out),if_neg (fun h=>h HE2.out),if_neg (by rw [HMF.out];decide),if_neg (by simp)]
     have HZZ:Hid (mkRat q p=z):=lh_ (by rw [← HZ.out,if_pos rfl])
     have lx5:=kc2_ I
     refine ks6_ fun K O T Y=>?_
     refine tk2_ ?_
     iterate 3 refine sk ?_
     refine tk ?_
     refine nz Y I O ?_;clear Y T I lx5 O K;intro vw10 I
     refine wp_cond_false (by rfl) ?_
     refine wp_skip ?_
     show Code.wp _ _ _ _ _
     have HZ6:Hid (mkRat q p=z):=lh_ (HZZ.out)
     have su6:sz z≤8793:=by have e:=HZ6.out;first|omega|(rw [← e];exact qe1 (k:=8793) om om (by decide))
     have lx4:=kc1_ I
     have lx5:=kc2_ I
     refine ks5_ fun K O T Y=>?_
     refine tk2_ ?_
     refine ck Tryz.call102 (fun w' hw=>qi_ q p z _ (lh_ HZ6.out) (by exact HP0.out) om om) ?_
     refine tk2_ ?_
     refine nlS Y I fun vw11 J=>?_
     clear Y T I lx4 lx5
     have lx0:=kc0_ J;have fx0:=kf0_ J
     have r0:=Gr.refl vw11
     go_wp2
     refine kO O ?_;clear O K
     clear r0 lx0 fx0
     refine fH ((((((J.out).put2 0 0 rfl).put2 0 2 rfl).put 0 4 _ rfl).er 2).er 1) fun Wx14 I=>?_
     clear J
     refine wp_ret ?_
     try simp only [Exit.then,Exit.inBlock]
     have lx0:=kc0_ I
     have r0:=Gr.refl Wx14
     exact bR ⟨rfl,I.out.1⟩ qL4
    subst hng
    by_cases hk0:k0=0
    ·obtain rfl:c=4:=by rw [← HC.out,if_neg (fun h=>h HE1.out),if_neg (fun h=>h HE2.out),if_neg (by rw [HMF.out];decide),if_pos ⟨rfl,hk0⟩]
     obtain rfl:z=0:=by rw [← HZ.out,if_neg (by decide)]
     have HK0:Hid (q=0):=lh_ (by rw [← HQQ.out,hk0];rfl)
     clear hk0
     have lx5:=kc2_ I
     refine ks6_ fun K O T Y=>?_
     refine tk3_ ?_
     refine ck Tryz.call101 (fun w' hw=>qq_ q (0) _ (by have e9:(q)=(0:Int):=(by exact HK0.out);exact xt0 e9)) ?_
     refine tk2_ ?_
     refine nz Y I O ?_;clear Y T I lx5 O K;intro vw10 I
     refine wp_cond_true (by rfl) ?_
     refine ks1_ fun K O T Y=>?_
     refine tk ?_
     refine nlS Y I fun vw11 J=>?_
     clear Y T I
     have lx0:=kc0_ J;have fx0:=kf0_ J
     have r0:=Gr.refl vw11
     go_wp2
     refine kO O ?_;clear O K
     clear r0 lx0 fx0
     refine fH ((((J.out).put2 0 0 rfl).put2 0 2 rfl).put 0 4 _ rfl) fun Wx13 I=>?_
     clear J
     refine wp_ret ?_
     try simp only [Exit.then,Exit.inBlock]
     have lx0:=kc0_ I
     have r0:=Gr.refl Wx13
     try simp only [Exit.then,Exit.inBlock]
     exact bodyPost_ret (v := .tuple #[(.agg #[.int .u64 0, .string ⟨#[]⟩, .bool false, .int .u64 0, .string ⟨#[]⟩]), .int .i64 4]) (by simp [results, Tryz.results63, go_sem, lx0 _ r0]) rfl ⟨rfl,I.out.1⟩
    obtain rfl:c=0:=by rw [← HC.out,if_neg (fun h=>h HE1.out),if_neg (fun h=>h HE2.out),if_neg (by rw [HMF.out];decide),if_neg (fun h=>hk0 h.2)]
    have HZZ:Hid (mkRat q p=z):=lh_ (by rw [← HZ.out,if_pos rfl])
    have HK0:Hid (¬ q=0):=lh_ (by rw [← HQQ.out,if_pos rfl];omega)
    obtain ⟨t,HTS⟩:=ex_ (sgI q)
    clear hk0
    have htz:(t == 0)=false:=by have h9:¬ t=0:=(by rw [← HTS.out];exact xJ_ HK0.out);simpa using h9
    have lx5:=kc2_ I
    refine ks6_ fun K O T Y=>?_
    refine tk3_ ?_
    refine ck Tryz.call101 (fun w' hw=>qq_ q t _ (HTS.out)) ?_
    refine tk2_ ?_
    refine nz Y I O ?_;clear Y T I lx5 O K;intro vw10 I
    clear htz
    refine wp_cond_false (by rfl) ?_
    refine wp_skip ?_
    show Code.wp _ _ _ _ _
    have HZ6:Hid (mkRat q p=z):=lh_ (HZZ.out)
    have su6:sz z≤8793:=by have e:=HZ6.out;first|omega|(rw [← e];exact qe1 (k:=8793) om om (by decide))
    have lx4:=kc1_ I
    have lx5:=kc2_ I
    refine ks5_ fun K O T Y=>?_
    refine tk2_ ?_
    refine ck Tryz.call102 (fun w' hw=>qi_ q p z _ (lh_ HZ6.out) (by exact HP0.out) om om) ?_
    refine tk2_ ?_
    refine nlS Y I fun vw11 J=>?_
    clear Y T I lx4 lx5
    have lx0:=kc0_ J;have fx0:=kf0_ J
    have r0:=Gr.refl vw11
    go_wp2
    refine kO O ?_;clear O K
    clear r0 lx0 fx0
    refine fH ((((((J.out).put2 0 0 rfl).put2 0 2 rfl).put 0 4 _ rfl).er 2).er 1) fun Wx14 I=>?_
    clear J
    refine wp_ret ?_
    try simp only [Exit.then,Exit.inBlock]
    have lx0:=kc0_ I
    have r0:=Gr.refl Wx14
    exact bR ⟨rfl,I.out.1⟩ qL4
   have HMM:=lh_ (HM0.out.trans hmm)
   have HMF:=lh_ hmm
   obtain rfl:c=4:=by rw [← HC.out,if_neg (fun h=>h h1),if_neg (fun h=>h h2),if_pos hmm]
   obtain rfl:z=0:=by rw [← HZ.out,if_neg (by decide)]
   clear h1 h2 hmm
   have hx1:(e1 != 0)=false:=by rw [HE1.out];rfl
   have hx2:(e2 != 0)=false:=by rw [HE2.out];rfl
   have hx4:(!(tw == !dn.toList.isEmpty))=true:=HMM.out
   refine qw4 fun K O T Y=>?_
   iterate 12 refine tk ?_
   refine nz Y I O ?_;clear Y T I O K;intro vw6 I
   clear hx1 hx2 hx4
   refine wp_cond_true (by rfl) ?_
   refine ks1_ fun K O T Y=>?_
   refine tk ?_
   refine nlS Y I fun vw7 J=>?_
   clear Y T I
   have lx0:=kc0_ J;have fx0:=kf0_ J
   have r0:=Gr.refl vw7
   go_wp2
   refine kO O ?_;clear O K
   clear r0 lx0 fx0
   refine fH ((((J.out).put2 0 0 rfl).put2 0 2 rfl).put 0 4 _ rfl) fun Wx8 I=>?_
   clear J
   refine wp_ret ?_
   try simp only [Exit.then,Exit.inBlock]
   have lx0:=kc0_ I
   have r0:=Gr.refl Wx8
   try simp only [Exit.then,Exit.inBlock]
   exact bodyPost_ret (v := .tuple #[(.agg #[.int .u64 0, .string ⟨#[]⟩, .bool false, .int .u64 0, .string ⟨#[]⟩]), .int .i64 4]) (by simp [results, Tryz.results63, go_sem, lx0 _ r0]) rfl ⟨rfl,I.out.1⟩
  have HE2:=lh_ h2
  obtain rfl:c=4:=by rw [← HC.out,if_neg (fun h=>h h1),if_pos h2]
  obtain rfl:z=0:=by rw [← HZ.out,if_neg (by decide)]
  clear h1 h2
  have hx1:(e1 != 0)=false:=by rw [HE1.out];rfl
  have hx2:(e2 != 0)=true:=by simpa using HE2.out
  refine qw4 fun K O T Y=>?_
  iterate 7 refine tk ?_
  iterate 4 refine sk ?_
  refine tk ?_
  refine nz Y I O ?_;clear Y T I O K;intro vw6 I
  clear hx1 hx2
  refine wp_cond_true (by rfl) ?_
  refine ks1_ fun K O T Y=>?_
  refine tk ?_
  refine nlS Y I fun vw7 J=>?_
  clear Y T I
  have lx0:=kc0_ J;have fx0:=kf0_ J
  have r0:=Gr.refl vw7
  go_wp2
  refine kO O ?_;clear O K
  clear r0 lx0 fx0
  refine fH ((((J.out).put2 0 0 rfl).put2 0 2 rfl).put 0 4 _ rfl) fun Wx8 I=>?_
  clear J
  refine wp_ret ?_
  try simp only [Exit.then,Exit.inBlock]
  have lx0:=kc0_ I
  have r0:=Gr.refl Wx8
  try simp only [Exit.then,Exit.inBlock]
  exact bodyPost_ret (v := .tuple #[(.agg #[.int .u64 0, .string ⟨#[]⟩, .bool false, .int .u64 0, .string ⟨#[]⟩]), .int .i64 4]) (by simp [results, Tryz.results63, go_sem, lx0 _ r0]) rfl ⟨rfl,I.out.1⟩
 have HE1:=lh_ h1
 obtain rfl:c=4:=by rw [← HC.out,if_pos h1]
 obtain rfl:z=0:=by rw [← HZ.out,if_neg (by decide)]
 clear h1
 have hx1:(e1 != 0)=true:=by simpa using HE1.out
 refine qw4 fun K O T Y=>?_
 refine tk3_ ?_
 iterate 2 refine sk ?_
 refine tk2_ ?_
 iterate 4 refine sk ?_
 refine tk ?_
 refine nz Y I O ?_;clear Y T I O K;intro vw6 I
 clear hx1
 refine wp_cond_true (by rfl) ?_
 refine ks1_ fun K O T Y=>?_
 refine tk ?_
 refine nlS Y I fun vw7 J=>?_
 clear Y T I
 have lx0:=kc0_ J;have fx0:=kf0_ J
 have r0:=Gr.refl vw7
 go_wp2
 refine kO O ?_;clear O K
 clear r0 lx0 fx0
 refine fH ((((J.out).put2 0 0 rfl).put2 0 2 rfl).put 0 4 _ rfl) fun Wx8 I=>?_
 clear J
 refine wp_ret ?_
 try simp only [Exit.then,Exit.inBlock]
 have lx0:=kc0_ I
 have r0:=Gr.refl Wx8
 try simp only [Exit.then,Exit.inBlock]
 exact bodyPost_ret (v := .tuple #[(.agg #[.int .u64 0, .string ⟨#[]⟩, .bool false, .int .u64 0, .string ⟨#[]⟩]), .int .i64 4]) (by simp [results, Tryz.results63, go_sem, lx0 _ r0]) rfl ⟨rfl,I.out.1⟩
theorem qR5 (s:ByteArray) (w:World) (HSZ:Hid (4096<s.size)) :
  CB 63 #[.string s] w ((.tuple #[(.agg #[.int .u64 0,.string ⟨#[]⟩,.bool false,.int .u64 0,.string ⟨#[]⟩]),.int .i64 3])):=by
 go_enter Tryz.func63,Tryz.ntmps63
 have I:=lh_ (hp0 w)
 refine kSl fun K O=>?_;go_wp2
 refine kF_ O (al1_ I) fun Wx0 J=>?_;clear O K
 clear I;have I:=J;clear J
 refine wp_seq ?_
 have hlt9:4096<(s.size:Int):=by have:=HSZ.out;omega
 refine ks3_ fun K O T Y=>?_
 refine tk3_ ?_
 refine nz Y I O ?_;clear Y T I O K;intro vw1 I
 clear hlt9
 refine wp_cond_true (by rfl) ?_
 refine ks1_ fun K O T Y=>?_
 refine tk ?_
 refine nlS Y I fun vw2 J=>?_
 clear Y T I
 have lx0:=kc0_ J;have fx0:=kf0_ J
 have r0:=Gr.refl vw2
 go_wp2
 refine kO O ?_;clear O K
 clear r0 lx0 fx0
 refine fH ((((J.out).put2 0 0 rfl).put2 0 2 rfl).put 0 4 _ rfl) fun Wx2 I=>?_
 clear J
 refine wp_ret ?_
 try simp only [Exit.then,Exit.inBlock]
 have lx0:=kc0_ I
 have r0:=Gr.refl Wx2
 exact bodyPost_ret (v := .tuple #[(.agg #[.int .u64 0, .string ⟨#[]⟩, .bool false, .int .u64 0, .string ⟨#[]⟩]), .int .i64 3]) (by simp [results, Tryz.results63, go_sem, lx0 _ r0]) rfl ⟨rfl,I.out.1⟩
theorem xP0 (t:ByteArray) (h:qi6 ((⟨#[49]⟩:ByteArray) ++ t)=0):10 ^ t.size≤pnum ((⟨#[49]⟩:ByteArray) ++ t):=by
 unfold qi6 at h
 split at h
 ·omega
 rename_i h1
 split at h
 ·rename_i h2
  unfold pnum
  rw [if_pos ⟨by omega,h2⟩,xn5]
  have e:((⟨#[49]⟩:ByteArray) ++ t).data.toList=49 :: t.data.toList:=by simp
  rw [e,qI9]
  have e2:t.data.toList.length=t.size:=by rw [Array.length_toList];rfl
  rw [e2]
  have e3:(49:UInt8).toNat - 48=1:=by decide
  rw [e3]
  omega
 omega
theorem qO5 (s:ByteArray):wl (pnum s)≤600:=Nat.le_trans (qa2.2 (xy5 s 512 rfl)) (by decide)
theorem qE2 (s:ByteArray) (z:Rat) (c:Int) (w:World) (hz:dnum s=z) (hc:qg0 s=c) (hs:s.size≤9223372036854775807) :
  CB 63 #[.string s] w (.tuple #[(Value.agg #[.int .u64 (lo z.num.natAbs),.string (bg z.num.natAbs),.bool (z.num<0),.int .u64 (lo (z.den - 1)),.string (bg (z.den - 1))]),.int .i64 c]):=by
 by_cases h:4096<s.size
 ·have e1:qg0 s=3:=by unfold qg0;rw [if_pos h]
  have e2:dnum s=0:=by unfold dnum;rw [e1,if_neg (by decide)]
  rw [e1] at hc;rw [e2] at hz;subst hc hz
  exact qR5 s w (lh_ h)
 have h1:=qj_ s
 have h2:=qp4 (idig s)
 have h3:=qp0 (idig s)
 refine xv5 s (idig s) (dA s) (dB s) (dO s) _ _ _ _ _ _ _ _ _ _ _ _ _ w om om (by unfold dA;omega) (by unfold dB;omega) (by unfold dO;rw [ql7];unfold dB;have:(⟨#[49]⟩:ByteArray).size=1:=rfl;omega) (lh_ rfl) (lh_ rfl) (lh_ rfl) (lh_ rfl) (lh_ rfl) (lh_ rfl) (lh_ rfl) (lh_ rfl) (lh_ rfl) (lh_ rfl) (qO5 _) (qO5 _) (lh_ rfl) (lh_ rfl) (lh_ (Nat.pow_pos (by decide))) (lh_ (xP0 (dB s))) (lh_ rfl) (lh_ rfl) (lh_ rfl) (lh_ ?_) (lh_ ?_)
 ·rw [← hc];unfold qg0;rw [if_neg h];rfl
 rw [← hz,← hc];rfl
end Go.Proofs.YtobojnodohjiaaaGreatDoor
