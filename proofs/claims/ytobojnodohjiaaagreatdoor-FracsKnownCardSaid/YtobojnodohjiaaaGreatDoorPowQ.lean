
/- FracsPowers: the law's walk, in the cases that FracsKnown calls. -/
import Derived.Test.YtobojnodohjiaaaGreatDoorFPow2
import Derived.Test.YtobojnodohjiaaaGreatDoorWorksQ
import Derived.Test.YtobojnodohjiaaaGreatDoorPL
import Derived.Test.YtobojnodohjiaaaGreatDoorIntE
import Derived.Test.YtobojnodohjiaaaGreatDoorGreatP
set_option maxRecDepth 100000
set_option maxHeartbeats 16000000
set_option linter.unusedVariables false
set_option linter.unusedSimpArgs false
namespace Go.Proofs.YtobojnodohjiaaaGreatDoor
open Go.RowKit
attribute [local go_sem ↓] Go.wp_at_zero Go.wp_at_succ
attribute [local go_sem ↓] eq_nat eq_nat_zero eq_int eq_frac eq_frac_zero
attribute [local go_sem] Instr.field asAgg
def zpw (a:Rat) (e:Int):Rat:=if 0≤e then a ^ e.toNat else (1 / a) ^ (-e).toNat
theorem zpw_nat (a:Rat) (k:Nat):zpw a ((k:Nat):Int)=a ^ k:=by unfold zpw;rw [if_pos om,Int.toNat_natCast]
theorem zpw_neg (a:Rat) {j:Nat} (h:0<j):zpw a (-((j:Nat):Int))=(1 / a) ^ j:=by unfold zpw;rw [if_neg om,Int.neg_neg,Int.toNat_natCast]
theorem inv_mul1 {a:Rat} (h:¬ a=0):1 / a*a=1:=Rat.div_mul_cancel h
theorem zpw_succ {a:Rat} (h:¬ a=0) (e:Int):zpw a (e+1)=zpw a e*a:=by
 rcases (by omega:0≤e∨e = -1∨e < -1) with h1|h1|h1
 ·obtain ⟨k,rfl⟩:∃ k:Nat,e=(k:Int):=⟨e.toNat,by omega⟩
  rw [show ((k:Nat):Int)+1=((k+1:Nat):Int) by omega,zpw_nat,zpw_nat,Rat.pow_succ]
 ·subst h1
  rw [show (-1:Int)+1=((0:Nat):Int) by rfl,zpw_nat,Rat.pow_zero,show (-1:Int) = -((1:Nat):Int) by rfl,zpw_neg a (by decide),Rat.pow_succ,Rat.pow_zero,Rat.one_mul,inv_mul1 h]
 obtain ⟨j,rfl⟩:∃ j:Nat,e = -(((j+1:Nat)):Int):=⟨(-e - 1).toNat,by omega⟩
 have hj:0<j:=by omega
 rw [show -((j+1:Nat):Int)+1 = -((j:Nat):Int) by omega,zpw_neg a hj,zpw_neg a om,Rat.pow_succ,Rat.mul_assoc,inv_mul1 h,Rat.mul_one]
theorem zpw_pred {a:Rat} (h:¬ a=0) (e:Int):zpw a (e - 1)=zpw a e*(1 / a):=by
 have:=zpw_succ h (e - 1)
 rw [show e - 1+1=e by omega] at this
 rw [this,Rat.mul_assoc,Rat.mul_comm a,inv_mul1 h,Rat.mul_one]
theorem zpw_addn {a:Rat} (h:¬ a=0) (m:Int):∀ k:Nat,zpw a (m+((k:Nat):Int))=zpw a m*a ^ k
 | 0=>by rw [show m+((0:Nat):Int)=m by omega,Rat.pow_zero,Rat.mul_one]
 | k+1=>by rw [show m+((k+1:Nat):Int)=m+((k:Nat):Int)+1 by omega,zpw_succ h,zpw_addn h m k,Rat.pow_succ,Rat.mul_assoc]
theorem zpw_subn {a:Rat} (h:¬ a=0) (m:Int):∀ k:Nat,zpw a (m - ((k:Nat):Int))=zpw a m*(1 / a) ^ k
 | 0=>by rw [show m - ((0:Nat):Int)=m by omega,Rat.pow_zero,Rat.mul_one]
 | k+1=>by rw [show m - ((k+1:Nat):Int)=m - ((k:Nat):Int) - 1 by omega,zpw_pred h,zpw_subn h m k,Rat.pow_succ,Rat.mul_assoc]
theorem zp_add (a:Rat) (i:Nat):∀ j:Nat,a ^ (i+j)=a ^ i*a ^ j
 | 0=>by rw [Nat.add_zero,Rat.pow_zero,Rat.mul_one]
 | j+1=>by rw [← Nat.add_assoc,Rat.pow_succ,zp_add a i j,Rat.pow_succ,Rat.mul_assoc]
theorem zpw_add {a:Rat} (m k:Int) (h:¬ a=0∨(0≤m∧0≤k)):zpw a m*zpw a k=zpw a (m+k):=by
 by_cases h0:a=0
 ·obtain ⟨h1,h2⟩:=h.elim (fun e=>absurd h0 e) id
  obtain ⟨i,rfl⟩:∃ i:Nat,m=(i:Int):=⟨m.toNat,by omega⟩
  obtain ⟨j,rfl⟩:∃ j:Nat,k=(j:Int):=⟨k.toNat,by omega⟩
  rw [show ((i:Nat):Int)+((j:Nat):Int)=((i+j:Nat):Int) by omega,zpw_nat,zpw_nat,zpw_nat,zp_add]
 rcases Int.le_total 0 k with h1|h1
 ·obtain ⟨j,rfl⟩:∃ j:Nat,k=(j:Int):=⟨k.toNat,by omega⟩
  rw [zpw_addn h0,zpw_nat]
 obtain ⟨j,rfl⟩:∃ j:Nat,k = -(j:Int):=⟨(-k).toNat,by omega⟩
 rw [← Int.sub_eq_add_neg,zpw_subn h0]
 congr 1
 rcases Nat.eq_zero_or_pos j with h2|h2
 ·subst h2
  rw [Rat.pow_zero,show -((0:Nat):Int)=((0:Nat):Int) by rfl,zpw_nat,Rat.pow_zero]
 exact zpw_neg a h2
theorem zpw_inv {a:Rat} (h:¬ a=0) (j:Nat):(1 / a) ^ j=1 / a ^ j:=by
 have h1:∀ j:Nat,(1 / a) ^ j*a ^ j=1:=fun j=>by
  induction j with
  | zero=>rw [Rat.pow_zero,Rat.pow_zero,Rat.mul_one]
  | succ j ih =>
   rw [Rat.pow_succ,Rat.pow_succ,show (1 / a) ^ j*(1 / a)*(a ^ j*a)=((1 / a) ^ j*a ^ j)*(1 / a*a) by grind,ih,inv_mul1 h,Rat.mul_one]
 have h2:¬ a ^ j=0:=fun e=>by have:=h1 j;rw [e,Rat.mul_zero] at this;exact absurd this (by decide +kernel)
 have h3:=h1 j
 rw [Rat.div_def 1 (a ^ j),Rat.one_mul]
 have h4:=Rat.mul_inv_cancel _ h2
 calc (1 / a) ^ j=(1 / a) ^ j*(a ^ j*(a ^ j)⁻¹):=by rw [h4,Rat.mul_one]
  _=(a ^ j)⁻¹:=by rw [← Rat.mul_assoc,h3,Rat.one_mul]
theorem zpw_any (a z:Rat) (e:Int) (w:World) (hz:zpw a e=z) (h1:-4096≤e) (h2:e≤4096) (hne:¬ a=0∨0≤e) (hn:nb a.num.natAbs≤64) (hd:nb a.den≤64) (hs:sz a≤8192) :
  Calls Tryz.prog 151 #[(Value.agg #[.int .u64 (lo a.num.natAbs),.string (bg a.num.natAbs),.bool (a.num<0),.int .u64 (lo (a.den - 1)),.string (bg (a.den - 1))]),.int .i64 e] w fun x w'=>x=.returned (.tuple #[(Value.agg #[.int .u64 (lo z.num.natAbs),.string (bg z.num.natAbs),.bool (z.num<0),.int .u64 (lo (z.den - 1)),.string (bg (z.den - 1))]),.int .i64 0])∧Gr w w':=by
 rcases Int.le_total 0 e with h|h
 ·obtain ⟨k,rfl⟩:∃ k:Nat,e=(k:Int):=⟨e.toNat,by omega⟩
  have hk:k≤4096:=by omega
  exact fpow_ok a z k w (by rw [← zpw_nat];exact hz) hk (Nat.mul_le_mul hk hn) (Nat.mul_le_mul hk hd) hs
 rcases (by omega:e=0∨e<0) with h0|h0
 ·subst h0
  exact fpow_ok a z 0 w (by rw [← zpw_nat];exact hz) om om om hs
 obtain ⟨j,rfl⟩:∃ j:Nat,e = -(j:Int):=⟨(-e).toNat,by omega⟩
 have hj:j≤4096:=by omega
 have hj0:0<j:=by omega
 exact fpow_neg a z j w (by rw [← zpw_neg a hj0];exact hz) hj0 hj (hne.elim id fun e=>by omega) (Nat.mul_le_mul hj hn) (Nat.mul_le_mul hj hd) hs
theorem sz_pwn {a:Rat} {k:Nat} (h:k≤4096) (hn:nb a.num.natAbs≤64) (hd:nb a.den≤64):sz (a ^ k)≤8192 :=
 sz_of (by rw [Rat.num_pow,Int.natAbs_pow];exact wl_pow _ _ (Nat.mul_le_mul h hn)) (by rw [Rat.den_pow];exact wl_pow _ _ (Nat.mul_le_mul h hd))
theorem sz_zpw {a:Rat} {e:Int} (h1:-4096≤e) (h2:e≤4096) (hne:¬ a=0∨0≤e) (hn:nb a.num.natAbs≤64) (hd:nb a.den≤64):sz (zpw a e)≤8192:=by
 unfold zpw
 split
 ·exact sz_pwn om hn hd
 have h0:a.num≠0:=fun x=>(hne.elim (fun y=>y (num_zero.1 x)) fun y=>by omega)
 obtain ⟨i1,i2⟩:=inv_sz a
 rw [if_neg h0] at i1 i2
 exact sz_pwn om (by rw [i1];exact hd) (by rw [i2];exact hn)
theorem powq_lo (n d m k:Int) (a:Rat) (w:World) (HA0:Hid (qv n d=a)) (h1:-9223372036854775808≤n) (h2:n≤9223372036854775807) (h3:0≤d) (h4:d≤4294967295) (hm:m < -4096) (HT:Hid (Tab w)) :
  CB 59 #[.agg #[.int .i64 n,.int .u32 d],.int .i64 m,.int .i64 k] w (.bool true):=by
 go_enter Tryz.func59,Tryz.ntmps59
 have I:=lh_ (hp0 w)
 refine kSl fun K O=>?_;go_wp2
 refine kF_ O (al1_ I) fun Wx0 J=>?_;clear O K
 clear I;have I:=J;clear J
 have HZ1:Hid (qv n d=a):=lh_ (HA0.out)
 have su1:sz a≤4:=by have e:=HZ1.out;first|omega|(rw [← e];exact sz_qv n d om om om om)
 have lx0:=kc0_ I
 refine ks2_ fun K O T Y=>?_
 refine tk ?_
 refine ck Tryz.call50 (fun w' hw=>qv_any n d a _ HZ1.out om om om om) ?_
 refine nlS Y I fun vw1 J=>?_
 clear Y T I lx0
 go_wp2
 refine kF_ O (((J.out).aL (vw1.heap.size)).er 0) fun Wx1 I=>?_;clear O K
 clear J
 generalize vw1.heap.size=gx2 at *
 have lx2:=kc0_ I
 refine qa2 fun K O T Y=>?_
 refine tk2_ ?_
 refine ck Tryz.call151 (fun w' hw=>fpow_lo a m _ om) ?_
 refine tk3_ ?_
 refine nlS Y I fun vw2 J=>?_
 clear Y T I lx2
 go_wp2
 refine kF_ O ((J.out).aL (vw2.heap.size)) fun Wx2 I=>?_;clear O K
 clear J
 generalize vw2.heap.size=gx3 at *
 refine wp_seq ?_
 have hd1:m < -4096:=ok
 refine qa2 fun K O T Y=>?_
 refine tk3_ ?_
 iterate 2 refine sk ?_
 refine tk ?_
 refine nz Y I O ?_;clear Y T I O K;intro vw3 I
 clear hd1
 refine wp_cond_true (by rfl) ?_
 have HB:=HPb I
 have lx3:=kc1_ I
 refine qr5 fun K O T Y=>?_
 iterate 8 refine tk ?_
 refine ck Tryz.call62 (fun w' hw=>worksq_any _ (lh_ (HT.out.gr (Gr.trans HB.out hw)))) ?_
 refine tk2_ ?_
 refine nz Y I O ?_;clear Y T I lx3 HB O K;intro vw4 I
 refine wp_ret ?_
 try simp only [Exit.then,Exit.inBlock]
 exact bR ⟨rfl,I.out.1⟩ qB9
theorem powq_hi (n d m k:Int) (a:Rat) (w:World) (HA0:Hid (qv n d=a)) (h1:-9223372036854775808≤n) (h2:n≤9223372036854775807) (h3:0≤d) (h4:d≤4294967295) (hm:4096<m) (HT:Hid (Tab w)) :
  CB 59 #[.agg #[.int .i64 n,.int .u32 d],.int .i64 m,.int .i64 k] w (.bool true):=by
 go_enter Tryz.func59,Tryz.ntmps59
 have I:=lh_ (hp0 w)
 refine kSl fun K O=>?_;go_wp2
 refine kF_ O (al1_ I) fun Wx0 J=>?_;clear O K
 clear I;have I:=J;clear J
 have HZ1:Hid (qv n d=a):=lh_ (HA0.out)
 have su1:sz a≤4:=by have e:=HZ1.out;first|omega|(rw [← e];exact sz_qv n d om om om om)
 have lx0:=kc0_ I
 refine ks2_ fun K O T Y=>?_
 refine tk ?_
 refine ck Tryz.call50 (fun w' hw=>qv_any n d a _ HZ1.out om om om om) ?_
 refine nlS Y I fun vw1 J=>?_
 clear Y T I lx0
 go_wp2
 refine kF_ O (((J.out).aL (vw1.heap.size)).er 0) fun Wx1 I=>?_;clear O K
 clear J
 generalize vw1.heap.size=gx2 at *
 have lx2:=kc0_ I
 refine qa2 fun K O T Y=>?_
 refine tk2_ ?_
 refine ck Tryz.call151 (fun w' hw=>fpow_hi a m _ om) ?_
 refine tk3_ ?_
 refine nlS Y I fun vw2 J=>?_
 clear Y T I lx2
 go_wp2
 refine kF_ O ((J.out).aL (vw2.heap.size)) fun Wx2 I=>?_;clear O K
 clear J
 generalize vw2.heap.size=gx3 at *
 refine wp_seq ?_
 have hd1:¬ (m < -4096):=ok
 have hd2:4096<m:=ok
 refine qa2 fun K O T Y=>?_
 iterate 6 refine tk ?_
 refine nz Y I O ?_;clear Y T I O K;intro vw3 I
 clear hd1 hd2
 refine wp_cond_true (by rfl) ?_
 have HB:=HPb I
 have lx3:=kc1_ I
 refine qr5 fun K O T Y=>?_
 iterate 8 refine tk ?_
 refine ck Tryz.call62 (fun w' hw=>worksq_any _ (lh_ (HT.out.gr (Gr.trans HB.out hw)))) ?_
 refine tk2_ ?_
 refine nz Y I O ?_;clear Y T I lx3 HB O K;intro vw4 I
 refine wp_ret ?_
 try simp only [Exit.then,Exit.inBlock]
 exact bR ⟨rfl,I.out.1⟩ qB9
theorem powq_zero (n d m k:Int) (a:Rat) (w:World) (HA0:Hid (qv n d=a)) (h1:-9223372036854775808≤n) (h2:n≤9223372036854775807) (h3:0≤d) (h4:d≤4294967295) (hm:m<0) (hm2:-4096≤m) (HZA:Hid (a=0)) (HT:Hid (Tab w)) :
  CB 59 #[.agg #[.int .i64 n,.int .u32 d],.int .i64 m,.int .i64 k] w (.bool true):=by
 go_enter Tryz.func59,Tryz.ntmps59
 have I:=lh_ (hp0 w)
 refine kSl fun K O=>?_;go_wp2
 refine kF_ O (al1_ I) fun Wx0 J=>?_;clear O K
 clear I;have I:=J;clear J
 have HZ1:Hid (qv n d=a):=lh_ (HA0.out)
 have su1:sz a≤4:=by have e:=HZ1.out;first|omega|(rw [← e];exact sz_qv n d om om om om)
 have lx0:=kc0_ I
 refine ks2_ fun K O T Y=>?_
 refine tk ?_
 refine ck Tryz.call50 (fun w' hw=>qv_any n d a _ HZ1.out om om om om) ?_
 refine nlS Y I fun vw1 J=>?_
 clear Y T I lx0
 go_wp2
 refine kF_ O (((J.out).aL (vw1.heap.size)).er 0) fun Wx1 I=>?_;clear O K
 clear J
 generalize vw1.heap.size=gx2 at *
 have lx2:=kc0_ I
 refine qa2 fun K O T Y=>?_
 refine tk2_ ?_
 refine ck Tryz.call151 (fun w' hw=>fpow_zero a m _ om om (HZA.out)) ?_
 refine tk3_ ?_
 refine nlS Y I fun vw2 J=>?_
 clear Y T I lx2
 go_wp2
 refine kF_ O ((J.out).aL (vw2.heap.size)) fun Wx2 I=>?_;clear O K
 clear J
 generalize vw2.heap.size=gx3 at *
 refine wp_seq ?_
 have hd1:¬ (m < -4096):=ok
 have hd2:¬ (4096<m):=ok
 refine qa2 fun K O T Y=>?_
 iterate 6 refine tk ?_
 refine nz Y I O ?_;clear Y T I O K;intro vw3 I
 clear hd1 hd2
 refine wp_cond_false (by rfl) ?_
 refine wp_skip ?_
 show Code.wp _ _ _ _ _
 refine wp_seq ?_
 have hd3:m<0:=ok
 have lx2:=kc0_ I
 refine ks7_ fun K O T Y=>?_
 refine tk ?_
 refine ck Tryz.call139 (fun w' hw=>fsign_any a (0) _ (by rw [HZA.out];rfl)) ?_
 iterate 5 refine tk ?_
 refine nz Y I O ?_;clear Y T I lx2 O K;intro vw4 I
 clear hd3
 refine wp_cond_true (by rfl) ?_
 have HB:=HPb I
 have lx3:=kc1_ I
 refine qr5 fun K O T Y=>?_
 iterate 8 refine tk ?_
 refine ck Tryz.call62 (fun w' hw=>worksq_any _ (lh_ (HT.out.gr (Gr.trans HB.out hw)))) ?_
 refine tk2_ ?_
 refine nz Y I O ?_;clear Y T I lx3 HB O K;intro vw5 I
 refine wp_ret ?_
 try simp only [Exit.then,Exit.inBlock]
 exact bR ⟨rfl,I.out.1⟩ qB9
theorem powq_big (n d m k:Int) (a p:Rat) (s:Int) (w:World) (HA0:Hid (qv n d=a)) (h1:-9223372036854775808≤n) (h2:n≤9223372036854775807) (h3:0≤d) (h4:d≤4294967295) (hm:20<m) (hm2:m≤4096) (HNB:Hid (nb a.num.natAbs≤64)) (HDB:Hid (nb a.den≤64)) (HPZ:Hid (zpw a m=p)) (HSG:Hid (sgQ a=s)) (hs0:¬ s=0) (HT:Hid (Tab w)) :
  CB 59 #[.agg #[.int .i64 n,.int .u32 d],.int .i64 m,.int .i64 k] w (.bool true):=by
 go_enter Tryz.func59,Tryz.ntmps59
 have I:=lh_ (hp0 w)
 refine kSl fun K O=>?_;go_wp2
 refine kF_ O (al1_ I) fun Wx0 J=>?_;clear O K
 clear I;have I:=J;clear J
 have HZ1:Hid (qv n d=a):=lh_ (HA0.out)
 have su1:sz a≤4:=by have e:=HZ1.out;first|omega|(rw [← e];exact sz_qv n d om om om om)
 have lx0:=kc0_ I
 refine ks2_ fun K O T Y=>?_
 refine tk ?_
 refine ck Tryz.call50 (fun w' hw=>qv_any n d a _ HZ1.out om om om om) ?_
 refine nlS Y I fun vw1 J=>?_
 clear Y T I lx0
 go_wp2
 refine kF_ O (((J.out).aL (vw1.heap.size)).er 0) fun Wx1 I=>?_;clear O K
 clear J
 generalize vw1.heap.size=gx2 at *
 have lx2:=kc0_ I
 refine qa2 fun K O T Y=>?_
 refine tk2_ ?_
 refine ck Tryz.call151 (fun w' hw=>zpw_any a p m _ (HPZ.out) om om (Or.inr om) HNB.out HDB.out om) ?_
 refine tk3_ ?_
 refine nlS Y I fun vw2 J=>?_
 clear Y T I lx2
 go_wp2
 refine kF_ O ((J.out).aL (vw2.heap.size)) fun Wx2 I=>?_;clear O K
 clear J
 generalize vw2.heap.size=gx3 at *
 refine wp_seq ?_
 have hd1:¬ (m < -4096):=ok
 have hd2:¬ (4096<m):=ok
 refine qa2 fun K O T Y=>?_
 iterate 6 refine tk ?_
 refine nz Y I O ?_;clear Y T I O K;intro vw3 I
 clear hd1 hd2
 refine wp_cond_false (by rfl) ?_
 refine wp_skip ?_
 show Code.wp _ _ _ _ _
 refine wp_seq ?_
 have hd3:(s == (0))=false:=by have:¬ (s=0):=(ok);simpa using this
 have lx2:=kc0_ I
 refine ks7_ fun K O T Y=>?_
 refine tk ?_
 refine ck Tryz.call139 (fun w' hw=>fsign_any a s _ (HSG.out)) ?_
 refine tk2_ ?_
 iterate 2 refine sk ?_
 refine tk ?_
 refine nz Y I O ?_;clear Y T I lx2 O K;intro vw4 I
 clear hd3
 refine wp_cond_false (by rfl) ?_
 refine wp_skip ?_
 show Code.wp _ _ _ _ _
 refine wp_seq ?_
 refine ks2_ fun K O T Y=>?_
 refine tk2_ ?_
 refine nz Y I O ?_;clear Y T I O K;intro vw5 I
 refine wp_cond_false (by rfl) ?_
 refine wp_skip ?_
 show Code.wp _ _ _ _ _
 refine wp_seq ?_
 have hd4:¬ (m < -20):=ok
 have hd5:20<m:=ok
 have lx2:=kc0_ I
 refine qU5 fun K O T Y=>?_
 iterate 7 refine tk ?_
 iterate 2 refine sk ?_
 refine tk2_ ?_
 iterate 2 refine sk ?_
 refine tk2_ ?_
 iterate 13 refine sk ?_
 refine tk ?_
 refine nz Y I O ?_;clear Y T I lx2 O K;intro vw6 I
 clear hd4 hd5
 refine wp_cond_true (by rfl) ?_
 have HB:=HPb I
 refine ks2_ fun K O T Y=>?_
 refine ck Tryz.call62 (fun w' hw=>worksq_any _ (lh_ (HT.out.gr (Gr.trans HB.out hw)))) ?_
 refine tk ?_
 refine nz Y I O ?_;clear Y T I HB O K;intro vw7 I
 refine wp_ret ?_
 try simp only [Exit.then,Exit.inBlock]
 exact bR ⟨rfl,I.out.1⟩ qB9
theorem powq_out (n d m k:Int) (a p:Rat) (w:World) (HA0:Hid (qv n d=a)) (h1:-9223372036854775808≤n) (h2:n≤9223372036854775807) (h3:0≤d) (h4:d≤4294967295) (HNB:Hid (nb a.num.natAbs≤64)) (HDB:Hid (nb a.den≤64)) (HZA:Hid (a=0)) (hm:0≤m) (hm2:m≤20) (hk:k<0) (hk2:-20≤k) (HPZ:Hid (zpw a m=p)) (HT:Hid (Tab w)) :
  CB 59 #[.agg #[.int .i64 n,.int .u32 d],.int .i64 m,.int .i64 k] w (.bool true):=by
 go_enter Tryz.func59,Tryz.ntmps59
 have I:=lh_ (hp0 w)
 refine kSl fun K O=>?_;go_wp2
 refine kF_ O (al1_ I) fun Wx0 J=>?_;clear O K
 clear I;have I:=J;clear J
 have HZ1:Hid (qv n d=a):=lh_ (HA0.out)
 have su1:sz a≤4:=by have e:=HZ1.out;first|omega|(rw [← e];exact sz_qv n d om om om om)
 have lx0:=kc0_ I
 refine ks2_ fun K O T Y=>?_
 refine tk ?_
 refine ck Tryz.call50 (fun w' hw=>qv_any n d a _ HZ1.out om om om om) ?_
 refine nlS Y I fun vw1 J=>?_
 clear Y T I lx0
 go_wp2
 refine kF_ O (((J.out).aL (vw1.heap.size)).er 0) fun Wx1 I=>?_;clear O K
 clear J
 generalize vw1.heap.size=gx2 at *
 have lx2:=kc0_ I
 refine qa2 fun K O T Y=>?_
 refine tk2_ ?_
 refine ck Tryz.call151 (fun w' hw=>zpw_any a p m _ (HPZ.out) om om (Or.inr om) HNB.out HDB.out om) ?_
 refine tk3_ ?_
 refine nlS Y I fun vw2 J=>?_
 clear Y T I lx2
 go_wp2
 refine kF_ O ((J.out).aL (vw2.heap.size)) fun Wx2 I=>?_;clear O K
 clear J
 generalize vw2.heap.size=gx3 at *
 refine wp_seq ?_
 have hd1:¬ (m < -4096):=ok
 have hd2:¬ (4096<m):=ok
 refine qa2 fun K O T Y=>?_
 iterate 6 refine tk ?_
 refine nz Y I O ?_;clear Y T I O K;intro vw3 I
 clear hd1 hd2
 refine wp_cond_false (by rfl) ?_
 refine wp_skip ?_
 show Code.wp _ _ _ _ _
 refine wp_seq ?_
 have hd3:¬ (m<0):=ok
 have lx2:=kc0_ I
 refine ks7_ fun K O T Y=>?_
 refine tk ?_
 refine ck Tryz.call139 (fun w' hw=>fsign_any a (0) _ (by rw [HZA.out];rfl)) ?_
 iterate 5 refine tk ?_
 refine nz Y I O ?_;clear Y T I lx2 O K;intro vw4 I
 clear hd3
 refine wp_cond_false (by rfl) ?_
 refine wp_skip ?_
 show Code.wp _ _ _ _ _
 refine wp_seq ?_
 refine ks2_ fun K O T Y=>?_
 refine tk2_ ?_
 refine nz Y I O ?_;clear Y T I O K;intro vw5 I
 refine wp_cond_false (by rfl) ?_
 refine wp_skip ?_
 show Code.wp _ _ _ _ _
 refine wp_seq ?_
 have hd4:¬ (m < -20):=ok
 have hd5:¬ (20<m):=ok
 have hd6:¬ (k < -20):=ok
 have hd7:¬ (20<k):=ok
 have hd8:k<0:=ok
 have lx2:=kc0_ I
 refine qU5 fun K O T Y=>?_
 iterate 16 refine tk ?_
 refine ck Tryz.call139 (fun w' hw=>fsign_any a (0) _ (by rw [HZA.out];rfl)) ?_
 iterate 5 refine tk ?_
 iterate 4 refine sk ?_
 refine tk3_ ?_
 refine nz Y I O ?_;clear Y T I lx2 O K;intro vw6 I
 clear hd4 hd5 hd6 hd7 hd8
 refine wp_cond_true (by rfl) ?_
 have HB:=HPb I
 refine ks2_ fun K O T Y=>?_
 refine ck Tryz.call62 (fun w' hw=>worksq_any _ (lh_ (HT.out.gr (Gr.trans HB.out hw)))) ?_
 refine tk ?_
 refine nz Y I O ?_;clear Y T I HB O K;intro vw7 I
 refine wp_ret ?_
 try simp only [Exit.then,Exit.inBlock]
 exact bR ⟨rfl,I.out.1⟩ qB9
theorem powq_mz (n d m k:Int) (a p q r:Rat) (M:Nat) (w:World) (HA0:Hid (qv n d=a)) (h1:-9223372036854775808≤n) (h2:n≤9223372036854775807) (h3:0≤d) (h4:d≤4294967295) (HNB:Hid (nb a.num.natAbs≤64)) (HDB:Hid (nb a.den≤64)) (HZA:Hid (a=0)) (hm:0≤m) (hk:0≤k) (hm1:-20≤m) (hm2:m≤20) (hk1:-20≤k) (hk2:k≤20) (HPZ:Hid (zpw a m=p)) (HQ:Hid (zpw a k=q)) (HR:Hid (zpw a (m+k)=r)) (HPQ:Hid (p*q=r)) (HMX:Hid (max m (-m)=((M:Nat):Int))) (hM:M≤20) (hsp:sz p≤8192) (hsq:sz q≤8192) (hsr:sz r≤8192) (HPN:Hid (a ^ M=p))  (HT:Hid (Tab w)) :
  CB 59 #[.agg #[.int .i64 n,.int .u32 d],.int .i64 m,.int .i64 k] w (.bool true):=by
 have hmx:=HMX.out
 go_enter Tryz.func59,Tryz.ntmps59
 have I:=lh_ (hp0 w)
 refine kSl fun K O=>?_;go_wp2
 refine kF_ O (al1_ I) fun Wx0 J=>?_;clear O K
 clear I;have I:=J;clear J
 have HZ1:Hid (qv n d=a):=lh_ (HA0.out)
 have su1:sz a≤4:=by have e:=HZ1.out;first|omega|(rw [← e];exact sz_qv n d om om om om)
 have lx0:=kc0_ I
 refine ks2_ fun K O T Y=>?_
 refine tk ?_
 refine ck Tryz.call50 (fun w' hw=>qv_any n d a _ HZ1.out om om om om) ?_
 refine nlS Y I fun vw1 J=>?_
 clear Y T I lx0
 go_wp2
 refine kF_ O (((J.out).aL (vw1.heap.size)).er 0) fun Wx1 I=>?_;clear O K
 clear J
 generalize vw1.heap.size=gx2 at *
 have lx2:=kc0_ I
 refine qa2 fun K O T Y=>?_
 refine tk2_ ?_
 refine ck Tryz.call151 (fun w' hw=>zpw_any a p m _ (HPZ.out) om om (Or.inr om) HNB.out HDB.out om) ?_
 refine tk3_ ?_
 refine nlS Y I fun vw2 J=>?_
 clear Y T I lx2
 go_wp2
 refine kF_ O ((J.out).aL (vw2.heap.size)) fun Wx2 I=>?_;clear O K
 clear J
 generalize vw2.heap.size=gx3 at *
 refine wp_seq ?_
 have hd1:¬ (m < -4096):=ok
 have hd2:¬ (4096<m):=ok
 refine qa2 fun K O T Y=>?_
 iterate 6 refine tk ?_
 refine nz Y I O ?_;clear Y T I O K;intro vw3 I
 clear hd1 hd2
 refine wp_cond_false (by rfl) ?_
 refine wp_skip ?_
 show Code.wp _ _ _ _ _
 refine wp_seq ?_
 have hd3:¬ (m<0):=ok
 have lx2:=kc0_ I
 refine ks7_ fun K O T Y=>?_
 refine tk ?_
 refine ck Tryz.call139 (fun w' hw=>fsign_any a (0) _ (by rw [HZA.out];rfl)) ?_
 iterate 5 refine tk ?_
 refine nz Y I O ?_;clear Y T I lx2 O K;intro vw4 I
 clear hd3
 refine wp_cond_false (by rfl) ?_
 refine wp_skip ?_
 show Code.wp _ _ _ _ _
 refine wp_seq ?_
 refine ks2_ fun K O T Y=>?_
 refine tk2_ ?_
 refine nz Y I O ?_;clear Y T I O K;intro vw5 I
 refine wp_cond_false (by rfl) ?_
 refine wp_skip ?_
 show Code.wp _ _ _ _ _
 refine wp_seq ?_
 have hd4:¬ (m < -20):=ok
 have hd5:¬ (20<m):=ok
 have hd6:¬ (k < -20):=ok
 have hd7:¬ (20<k):=ok
 have hd8:¬ (k<0):=ok
 have hw9:IntKind.i64.wrap (m+k)=m+k:=by rw [IntKind.wrap_i64];omega
 have hd9:¬ ((m+k)<0):=ok
 have lx2:=kc0_ I
 refine qU5 fun K O T Y=>?_
 iterate 16 refine tk ?_
 refine ck Tryz.call139 (fun w' hw=>fsign_any a (0) _ (by rw [HZA.out];rfl)) ?_
 iterate 12 refine tk ?_
 refine nz Y I O ?_;clear Y T I lx2 O K;intro vw6 I
 clear hd4 hd5 hd6 hd7 hd8 hw9 hd9
 refine wp_cond_false (by rfl) ?_
 refine wp_skip ?_
 show Code.wp _ _ _ _ _
 have lx2:=kc0_ I
 refine qa2 fun K O T Y=>?_
 refine tk2_ ?_
 refine ck Tryz.call151 (fun w' hw=>zpw_any a q k _ (HQ.out) om om (Or.inr om) HNB.out HDB.out om) ?_
 refine tk3_ ?_
 refine nlS Y I fun vw7 J=>?_
 clear Y T I lx2
 go_wp2
 refine kF_ O ((J.out).aL (vw7.heap.size)) fun Wx11 I=>?_;clear O K
 clear J
 generalize vw7.heap.size=gx4 at *
 have hw12:IntKind.i64.wrap (m+k)=m+k:=by rw [IntKind.wrap_i64];omega
 have lx2:=kc0_ I
 refine qd4 fun K O T Y=>?_
 iterate 4 refine tk ?_
 refine ck Tryz.call151 (fun w' hw=>zpw_any a r (m+k) _ (HR.out) om om (Or.inr om) HNB.out HDB.out om) ?_
 refine tk3_ ?_
 refine nlS Y I fun vw8 J=>?_
 clear Y T I lx2
 go_wp2
 refine kF_ O ((J.out).aL (vw8.heap.size)) fun Wx12 I=>?_;clear O K
 clear J
 generalize vw8.heap.size=gx5 at *
 clear hw12
 have HZ2:Hid (((1:Int):Rat)=(1:Rat)):=lh_ (by decide +kernel)
 have su2:sz ((1:Rat))≤2:=sz_of (wl_le.2 (by decide +kernel)) (wl_le.2 (by decide +kernel))
 refine ks1_ fun K O T Y=>?_
 refine ck Tryz.call147 (fun w' hw=>fint_any (1) (1:Rat) _ HZ2.out om om) ?_
 refine nlS Y I fun vw9 J=>?_
 clear Y T I
 go_wp2
 refine kF_ O ((J.out).aL (vw9.heap.size)) fun Wx13 I=>?_;clear O K
 clear J
 generalize vw9.heap.size=gx6 at *
 refine wp_seq ?_
 refine kSl fun K O=>?_;go_wp2
 refine kF_ O (I.out) fun Wx14 J=>?_;clear O K
 clear I;have I:=J;clear J
 refine wp_block ?_
 go_loopg [15] M (fun kk iv wr=>∃ (i:Nat) (u:Rat),iv=.int .i64 ((i:Nat):Int)∧i+kk=M∧Hid (a ^ i=u)∧Hid (HP w wr [Sum.inl (gx2,36,#[.int .u64 (lo a.num.natAbs),.string (bg a.num.natAbs),.bool (a.num<0),.int .u64 (lo (a.den - 1)),.string (bg (a.den - 1))]),Sum.inl (gx3,36,#[.int .u64 (lo p.num.natAbs),.string (bg p.num.natAbs),.bool (p.num<0),.int .u64 (lo (p.den - 1)),.string (bg (p.den - 1))]),Sum.inl (gx4,36,#[.int .u64 (lo q.num.natAbs),.string (bg q.num.natAbs),.bool (q.num<0),.int .u64 (lo (q.den - 1)),.string (bg (q.den - 1))]),Sum.inl (gx5,36,#[.int .u64 (lo r.num.natAbs),.string (bg r.num.natAbs),.bool (r.num<0),.int .u64 (lo (r.den - 1)),.string (bg (r.den - 1))]),Sum.inl (gx6,36,#[.int .u64 (lo u.num.natAbs),.string (bg u.num.natAbs),.bool (u.num<0),.int .u64 (lo (u.den - 1)),.string (bg (u.den - 1))])]))
 case atStart=>exact ⟨0,1,rfl,by omega,lh_ (by rw [Rat.pow_zero]),I⟩
 case round =>
  rename_i J_ K_ hj1_ hj0_
  clear I
  obtain ⟨i,u,rfl,hik,HU,I⟩:=hrel
  have hsu:sz u≤8192:=by rw [← HU.out];exact sz_pwn om HNB.out HDB.out
  rcases gk with _|kk
  ·obtain rfl:M=i:=by omega
   have HUP:Hid (p=u):=lh_ (by rw [← HPN.out];exact HU.out)
   obtain rfl:=HUP.out
   clear HUP
   refine wp_seq ?_
   have hwm:IntKind.i64.wrap (-m) = -m:=by rw [IntKind.wrap_i64];omega
   have hlt9:¬ ((M:Nat):Int)<((M:Nat):Int):=by omega
   refine qa2 fun K O T Y=>?_
   refine tk3_ ?_
   refine wpPlan_takeL (v:=?_) rfl (by rfl) (fun w' hw=>?_) ?_
   rotate_left
   ·go_simp
    first|(simp only [hwm];with_reducible rfl)|with_reducible rfl
   simp only [Act.put,lA,lB,lC]
   refine tk2_ ?_
   refine nz Y I O ?_;clear Y T I O K;intro vw10 I
   clear hwm hlt9
   refine wp_cond_false (by rfl) ?_
   refine wp_exit ?_
   show Code.wp _ _ _ _ _
   refine wp_seq ?_
   have hd10:¬ (m<0):=ok
   refine ks2_ fun K O T Y=>?_
   refine tk2_ ?_
   refine nzR Y O (fun w2 hg=>(I.out.gr hg).er 0) ?_;clear Y T I O K;intro Wx18 I
   clear hd10
   refine wp_cond_false (by rfl) ?_
   refine wp_skip ?_
   show Code.wp _ _ _ _ _
   have HB:=HPb I
   have HZ3:Hid (p*(q)=r):=lh_ (HPQ.out)
   have su3:sz r≤8192:=by have e:=HZ3.out;first|omega|(rw [← e];have:=sz_mul p q;omega)
   have lx3:=kc0_ I
   have lx4:=kc1_ I
   have lx5:=kc2_ I
   have lx6:=kc3_ I
   refine kS fun K O=>?_
   refine xp6 fun T Y=>?_
   iterate 6 refine tk ?_
   refine ck Tryz.call134 (fun w' hw=>fmul_any p q r _ HZ3.out om om) ?_
   iterate 8 refine tk ?_
   refine ck Tryz.call62 (fun w' hw=>worksq_any _ (lh_ (HT.out.gr (Gr.trans HB.out hw)))) ?_
   refine tk ?_
   refine nlD Y I fun vw12 J=>?_
   clear Y T I lx3 lx4 lx5 lx6 HB
   go_wp2
   refine kF_ O (((((J.out).er 3).er 2).er 1).er 0) fun Wx20 I=>?_;clear O K
   clear J
   refine wp_ret ?_
   try simp only [Exit.then,Exit.inBlock]
   exact bR ⟨rfl,I.out.1⟩ qB9
  obtain ⟨v,HV⟩:∃ v,Hid (u*a=v):=⟨_,lh_ rfl⟩
  refine wp_seq ?_
  have hwm:IntKind.i64.wrap (-m) = -m:=by rw [IntKind.wrap_i64];omega
  have hlt9:((i:Nat):Int)<((M:Nat):Int):=by omega
  refine qa2 fun K O T Y=>?_
  refine tk3_ ?_
  refine wpPlan_takeL (v:=?_) rfl (by rfl) (fun w' hw=>?_) ?_
  rotate_left
  ·go_simp
   first|(simp only [hwm];with_reducible rfl)|with_reducible rfl
  simp only [Act.put,lA,lB,lC]
  refine tk2_ ?_
  refine nz Y I O ?_;clear Y T I O K;intro vw10 I
  clear hwm hlt9
  refine wp_cond_true (by rfl) ?_
  refine wp_skip ?_
  show Code.wp _ _ _ _ _
  refine wp_seq ?_
  refine wp_block ?_
  have HZ3:Hid (u*(a)=v):=lh_ (HV.out)
  have su3:sz v≤20000:=by have e:=HZ3.out;first|omega|(rw [← e];have:=sz_mul u a;omega)
  have lx2:=kc0_ I
  have lx6:=kc4_ I
  refine kL fun K O=>?_
  refine sq3_ fun T Y=>?_
  refine tk2_ ?_
  refine ck Tryz.call134 (fun w' hw=>fmul_any u a v _ HZ3.out om om) ?_
  refine nlS Y I fun vw11 J=>?_
  clear Y T I lx2 lx6
  have lx6:=kc4_ J;have fx6:=kf4_ J
  have r0:=Gr.refl vw11
  go_wp2
  refine kO O ?_;clear O K
  clear r0 lx6 fx6
  refine fH ((((J.out).put2 4 0 rfl).put2 4 2 rfl).put 4 4 _ rfl) fun Wx17 I=>?_
  clear J
  have hwi:IntKind.i64.wrap ((i:Int)+1)=(i:Int)+1:=by rw [IntKind.wrap_i64];omega
  refine kL fun K O=>?_
  refine sq3_ fun T Y=>?_
  refine tk3_ ?_
  refine nlS Y I fun vw12 J=>?_
  clear Y T I
  go_wp2
  refine O.out _ _ ?_;clear O K
  try simp only [Exit.then,Exit.inBlock]
  have I:=lh_ (J.out);clear J
  clear hwi
  refine hj0_ _ _ ?_
  go_roundg kk
  case measure=>omega
  case rel=>exact ⟨i+1,v,by go_num,by omega,lh_ (by rw [← HV.out,← HU.out,Rat.pow_succ]),lh_ (I.out)⟩
theorem powq_mn (n d m k:Int) (a p q r:Rat) (M:Nat) (s:Int) (w:World) (HA0:Hid (qv n d=a)) (h1:-9223372036854775808≤n) (h2:n≤9223372036854775807) (h3:0≤d) (h4:d≤4294967295) (HNB:Hid (nb a.num.natAbs≤64)) (HDB:Hid (nb a.den≤64)) (HZA:Hid (¬ a=0)) (HSG:Hid (sgQ a=s)) (hs0:¬ s=0) (hm:0≤m) (hm1:-20≤m) (hm2:m≤20) (hk1:-20≤k) (hk2:k≤20) (HPZ:Hid (zpw a m=p)) (HQ:Hid (zpw a k=q)) (HR:Hid (zpw a (m+k)=r)) (HPQ:Hid (p*q=r)) (HMX:Hid (max m (-m)=((M:Nat):Int))) (hM:M≤20) (hsp:sz p≤8192) (hsq:sz q≤8192) (hsr:sz r≤8192) (HPN:Hid (a ^ M=p))  (HT:Hid (Tab w)) :
  CB 59 #[.agg #[.int .i64 n,.int .u32 d],.int .i64 m,.int .i64 k] w (.bool true):=by
 have hmx:=HMX.out
 go_enter Tryz.func59,Tryz.ntmps59
 have I:=lh_ (hp0 w)
 refine kSl fun K O=>?_;go_wp2
 refine kF_ O (al1_ I) fun Wx0 J=>?_;clear O K
 clear I;have I:=J;clear J
 have HZ1:Hid (qv n d=a):=lh_ (HA0.out)
 have su1:sz a≤4:=by have e:=HZ1.out;first|omega|(rw [← e];exact sz_qv n d om om om om)
 have lx0:=kc0_ I
 refine ks2_ fun K O T Y=>?_
 refine tk ?_
 refine ck Tryz.call50 (fun w' hw=>qv_any n d a _ HZ1.out om om om om) ?_
 refine nlS Y I fun vw1 J=>?_
 clear Y T I lx0
 go_wp2
 refine kF_ O (((J.out).aL (vw1.heap.size)).er 0) fun Wx1 I=>?_;clear O K
 clear J
 generalize vw1.heap.size=gx2 at *
 have lx2:=kc0_ I
 refine qa2 fun K O T Y=>?_
 refine tk2_ ?_
 refine ck Tryz.call151 (fun w' hw=>zpw_any a p m _ (HPZ.out) om om (Or.inl HZA.out) HNB.out HDB.out om) ?_
 refine tk3_ ?_
 refine nlS Y I fun vw2 J=>?_
 clear Y T I lx2
 go_wp2
 refine kF_ O ((J.out).aL (vw2.heap.size)) fun Wx2 I=>?_;clear O K
 clear J
 generalize vw2.heap.size=gx3 at *
 refine wp_seq ?_
 have hd1:¬ (m < -4096):=ok
 have hd2:¬ (4096<m):=ok
 refine qa2 fun K O T Y=>?_
 iterate 6 refine tk ?_
 refine nz Y I O ?_;clear Y T I O K;intro vw3 I
 clear hd1 hd2
 refine wp_cond_false (by rfl) ?_
 refine wp_skip ?_
 show Code.wp _ _ _ _ _
 refine wp_seq ?_
 have hd3:(s == (0))=false:=by have:¬ (s=0):=(ok);simpa using this
 have lx2:=kc0_ I
 refine ks7_ fun K O T Y=>?_
 refine tk ?_
 refine ck Tryz.call139 (fun w' hw=>fsign_any a s _ (HSG.out)) ?_
 refine tk2_ ?_
 iterate 2 refine sk ?_
 refine tk ?_
 refine nz Y I O ?_;clear Y T I lx2 O K;intro vw4 I
 clear hd3
 refine wp_cond_false (by rfl) ?_
 refine wp_skip ?_
 show Code.wp _ _ _ _ _
 refine wp_seq ?_
 refine ks2_ fun K O T Y=>?_
 refine tk2_ ?_
 refine nz Y I O ?_;clear Y T I O K;intro vw5 I
 refine wp_cond_false (by rfl) ?_
 refine wp_skip ?_
 show Code.wp _ _ _ _ _
 refine wp_seq ?_
 have hd4:¬ (m < -20):=ok
 have hd5:¬ (20<m):=ok
 have hd6:¬ (k < -20):=ok
 have hd7:¬ (20<k):=ok
 have hd8:(s == (0))=false:=by have:¬ (s=0):=(ok);simpa using this
 have lx2:=kc0_ I
 refine qU5 fun K O T Y=>?_
 iterate 16 refine tk ?_
 refine ck Tryz.call139 (fun w' hw=>fsign_any a s _ (HSG.out)) ?_
 refine tk2_ ?_
 iterate 8 refine sk ?_
 refine tk2_ ?_
 refine nz Y I O ?_;clear Y T I lx2 O K;intro vw6 I
 clear hd4 hd5 hd6 hd7 hd8
 refine wp_cond_false (by rfl) ?_
 refine wp_skip ?_
 show Code.wp _ _ _ _ _
 have lx2:=kc0_ I
 refine qa2 fun K O T Y=>?_
 refine tk2_ ?_
 refine ck Tryz.call151 (fun w' hw=>zpw_any a q k _ (HQ.out) om om (Or.inl HZA.out) HNB.out HDB.out om) ?_
 refine tk3_ ?_
 refine nlS Y I fun vw7 J=>?_
 clear Y T I lx2
 go_wp2
 refine kF_ O ((J.out).aL (vw7.heap.size)) fun Wx11 I=>?_;clear O K
 clear J
 generalize vw7.heap.size=gx4 at *
 have hw12:IntKind.i64.wrap (m+k)=m+k:=by rw [IntKind.wrap_i64];omega
 have lx2:=kc0_ I
 refine qd4 fun K O T Y=>?_
 iterate 4 refine tk ?_
 refine ck Tryz.call151 (fun w' hw=>zpw_any a r (m+k) _ (HR.out) om om (Or.inl HZA.out) HNB.out HDB.out om) ?_
 refine tk3_ ?_
 refine nlS Y I fun vw8 J=>?_
 clear Y T I lx2
 go_wp2
 refine kF_ O ((J.out).aL (vw8.heap.size)) fun Wx12 I=>?_;clear O K
 clear J
 generalize vw8.heap.size=gx5 at *
 clear hw12
 have HZ2:Hid (((1:Int):Rat)=(1:Rat)):=lh_ (by decide +kernel)
 have su2:sz ((1:Rat))≤2:=sz_of (wl_le.2 (by decide +kernel)) (wl_le.2 (by decide +kernel))
 refine ks1_ fun K O T Y=>?_
 refine ck Tryz.call147 (fun w' hw=>fint_any (1) (1:Rat) _ HZ2.out om om) ?_
 refine nlS Y I fun vw9 J=>?_
 clear Y T I
 go_wp2
 refine kF_ O ((J.out).aL (vw9.heap.size)) fun Wx13 I=>?_;clear O K
 clear J
 generalize vw9.heap.size=gx6 at *
 refine wp_seq ?_
 refine kSl fun K O=>?_;go_wp2
 refine kF_ O (I.out) fun Wx14 J=>?_;clear O K
 clear I;have I:=J;clear J
 refine wp_block ?_
 go_loopg [15] M (fun kk iv wr=>∃ (i:Nat) (u:Rat),iv=.int .i64 ((i:Nat):Int)∧i+kk=M∧Hid (a ^ i=u)∧Hid (HP w wr [Sum.inl (gx2,36,#[.int .u64 (lo a.num.natAbs),.string (bg a.num.natAbs),.bool (a.num<0),.int .u64 (lo (a.den - 1)),.string (bg (a.den - 1))]),Sum.inl (gx3,36,#[.int .u64 (lo p.num.natAbs),.string (bg p.num.natAbs),.bool (p.num<0),.int .u64 (lo (p.den - 1)),.string (bg (p.den - 1))]),Sum.inl (gx4,36,#[.int .u64 (lo q.num.natAbs),.string (bg q.num.natAbs),.bool (q.num<0),.int .u64 (lo (q.den - 1)),.string (bg (q.den - 1))]),Sum.inl (gx5,36,#[.int .u64 (lo r.num.natAbs),.string (bg r.num.natAbs),.bool (r.num<0),.int .u64 (lo (r.den - 1)),.string (bg (r.den - 1))]),Sum.inl (gx6,36,#[.int .u64 (lo u.num.natAbs),.string (bg u.num.natAbs),.bool (u.num<0),.int .u64 (lo (u.den - 1)),.string (bg (u.den - 1))])]))
 case atStart=>exact ⟨0,1,rfl,by omega,lh_ (by rw [Rat.pow_zero]),I⟩
 case round =>
  rename_i J_ K_ hj1_ hj0_
  clear I
  obtain ⟨i,u,rfl,hik,HU,I⟩:=hrel
  have hsu:sz u≤8192:=by rw [← HU.out];exact sz_pwn om HNB.out HDB.out
  rcases gk with _|kk
  ·obtain rfl:M=i:=by omega
   have HUP:Hid (p=u):=lh_ (by rw [← HPN.out];exact HU.out)
   obtain rfl:=HUP.out
   clear HUP
   refine wp_seq ?_
   have hwm:IntKind.i64.wrap (-m) = -m:=by rw [IntKind.wrap_i64];omega
   have hlt9:¬ ((M:Nat):Int)<((M:Nat):Int):=by omega
   refine qa2 fun K O T Y=>?_
   refine tk3_ ?_
   refine wpPlan_takeL (v:=?_) rfl (by rfl) (fun w' hw=>?_) ?_
   rotate_left
   ·go_simp
    first|(simp only [hwm];with_reducible rfl)|with_reducible rfl
   simp only [Act.put,lA,lB,lC]
   refine tk2_ ?_
   refine nz Y I O ?_;clear Y T I O K;intro vw10 I
   clear hwm hlt9
   refine wp_cond_false (by rfl) ?_
   refine wp_exit ?_
   show Code.wp _ _ _ _ _
   refine wp_seq ?_
   have hd9:¬ (m<0):=ok
   refine ks2_ fun K O T Y=>?_
   refine tk2_ ?_
   refine nzR Y O (fun w2 hg=>(I.out.gr hg).er 0) ?_;clear Y T I O K;intro Wx18 I
   clear hd9
   refine wp_cond_false (by rfl) ?_
   refine wp_skip ?_
   show Code.wp _ _ _ _ _
   have HB:=HPb I
   have HZ3:Hid (p*(q)=r):=lh_ (HPQ.out)
   have su3:sz r≤8192:=by have e:=HZ3.out;first|omega|(rw [← e];have:=sz_mul p q;omega)
   have lx3:=kc0_ I
   have lx4:=kc1_ I
   have lx5:=kc2_ I
   have lx6:=kc3_ I
   refine kS fun K O=>?_
   refine xp6 fun T Y=>?_
   iterate 6 refine tk ?_
   refine ck Tryz.call134 (fun w' hw=>fmul_any p q r _ HZ3.out om om) ?_
   iterate 8 refine tk ?_
   refine ck Tryz.call62 (fun w' hw=>worksq_any _ (lh_ (HT.out.gr (Gr.trans HB.out hw)))) ?_
   refine tk ?_
   refine nlD Y I fun vw12 J=>?_
   clear Y T I lx3 lx4 lx5 lx6 HB
   go_wp2
   refine kF_ O (((((J.out).er 3).er 2).er 1).er 0) fun Wx20 I=>?_;clear O K
   clear J
   refine wp_ret ?_
   try simp only [Exit.then,Exit.inBlock]
   exact bR ⟨rfl,I.out.1⟩ qB9
  obtain ⟨v,HV⟩:∃ v,Hid (u*a=v):=⟨_,lh_ rfl⟩
  refine wp_seq ?_
  have hwm:IntKind.i64.wrap (-m) = -m:=by rw [IntKind.wrap_i64];omega
  have hlt9:((i:Nat):Int)<((M:Nat):Int):=by omega
  refine qa2 fun K O T Y=>?_
  refine tk3_ ?_
  refine wpPlan_takeL (v:=?_) rfl (by rfl) (fun w' hw=>?_) ?_
  rotate_left
  ·go_simp
   first|(simp only [hwm];with_reducible rfl)|with_reducible rfl
  simp only [Act.put,lA,lB,lC]
  refine tk2_ ?_
  refine nz Y I O ?_;clear Y T I O K;intro vw10 I
  clear hwm hlt9
  refine wp_cond_true (by rfl) ?_
  refine wp_skip ?_
  show Code.wp _ _ _ _ _
  refine wp_seq ?_
  refine wp_block ?_
  have HZ3:Hid (u*(a)=v):=lh_ (HV.out)
  have su3:sz v≤20000:=by have e:=HZ3.out;first|omega|(rw [← e];have:=sz_mul u a;omega)
  have lx2:=kc0_ I
  have lx6:=kc4_ I
  refine kL fun K O=>?_
  refine sq3_ fun T Y=>?_
  refine tk2_ ?_
  refine ck Tryz.call134 (fun w' hw=>fmul_any u a v _ HZ3.out om om) ?_
  refine nlS Y I fun vw11 J=>?_
  clear Y T I lx2 lx6
  have lx6:=kc4_ J;have fx6:=kf4_ J
  have r0:=Gr.refl vw11
  go_wp2
  refine kO O ?_;clear O K
  clear r0 lx6 fx6
  refine fH ((((J.out).put2 4 0 rfl).put2 4 2 rfl).put 4 4 _ rfl) fun Wx17 I=>?_
  clear J
  have hwi:IntKind.i64.wrap ((i:Int)+1)=(i:Int)+1:=by rw [IntKind.wrap_i64];omega
  refine kL fun K O=>?_
  refine sq3_ fun T Y=>?_
  refine tk3_ ?_
  refine nlS Y I fun vw12 J=>?_
  clear Y T I
  go_wp2
  refine O.out _ _ ?_;clear O K
  try simp only [Exit.then,Exit.inBlock]
  have I:=lh_ (J.out);clear J
  clear hwi
  refine hj0_ _ _ ?_
  go_roundg kk
  case measure=>omega
  case rel=>exact ⟨i+1,v,by go_num,by omega,lh_ (by rw [← HV.out,← HU.out,Rat.pow_succ]),lh_ (I.out)⟩
theorem powq_mg (n d m k:Int) (a p q r:Rat) (M:Nat) (s:Int) (w:World) (HA0:Hid (qv n d=a)) (h1:-9223372036854775808≤n) (h2:n≤9223372036854775807) (h3:0≤d) (h4:d≤4294967295) (HNB:Hid (nb a.num.natAbs≤64)) (HDB:Hid (nb a.den≤64)) (HZA:Hid (¬ a=0)) (HSG:Hid (sgQ a=s)) (hs0:¬ s=0) (hm:m<0) (hm1:-20≤m) (hm2:m≤20) (hk1:-20≤k) (hk2:k≤20) (HPZ:Hid (zpw a m=p)) (HQ:Hid (zpw a k=q)) (HR:Hid (zpw a (m+k)=r)) (HPQ:Hid (p*q=r)) (HMX:Hid (max m (-m)=((M:Nat):Int))) (hM:M≤20) (hsp:sz p≤8192) (hsq:sz q≤8192) (hsr:sz r≤8192) (HPI:Hid (1 / a ^ M=p)) (HPM:Hid (¬ a ^ M=0))  (HT:Hid (Tab w)) :
  CB 59 #[.agg #[.int .i64 n,.int .u32 d],.int .i64 m,.int .i64 k] w (.bool true):=by
 have hmx:=HMX.out
 go_enter Tryz.func59,Tryz.ntmps59
 have I:=lh_ (hp0 w)
 refine kSl fun K O=>?_;go_wp2
 refine kF_ O (al1_ I) fun Wx0 J=>?_;clear O K
 clear I;have I:=J;clear J
 have HZ1:Hid (qv n d=a):=lh_ (HA0.out)
 have su1:sz a≤4:=by have e:=HZ1.out;first|omega|(rw [← e];exact sz_qv n d om om om om)
 have lx0:=kc0_ I
 refine ks2_ fun K O T Y=>?_
 refine tk ?_
 refine ck Tryz.call50 (fun w' hw=>qv_any n d a _ HZ1.out om om om om) ?_
 refine nlS Y I fun vw1 J=>?_
 clear Y T I lx0
 go_wp2
 refine kF_ O (((J.out).aL (vw1.heap.size)).er 0) fun Wx1 I=>?_;clear O K
 clear J
 generalize vw1.heap.size=gx2 at *
 have lx2:=kc0_ I
 refine qa2 fun K O T Y=>?_
 refine tk2_ ?_
 refine ck Tryz.call151 (fun w' hw=>zpw_any a p m _ (HPZ.out) om om (Or.inl HZA.out) HNB.out HDB.out om) ?_
 refine tk3_ ?_
 refine nlS Y I fun vw2 J=>?_
 clear Y T I lx2
 go_wp2
 refine kF_ O ((J.out).aL (vw2.heap.size)) fun Wx2 I=>?_;clear O K
 clear J
 generalize vw2.heap.size=gx3 at *
 refine wp_seq ?_
 have hd1:¬ (m < -4096):=by first|exact ok|(rw [← HU.out];exact HPM.out)
 have hd2:¬ (4096<m):=by first|exact ok|(rw [← HU.out];exact HPM.out)
 refine qa2 fun K O T Y=>?_
 iterate 6 refine tk ?_
 refine nz Y I O ?_;clear Y T I O K;intro vw3 I
 clear hd1 hd2
 refine wp_cond_false (by rfl) ?_
 refine wp_skip ?_
 show Code.wp _ _ _ _ _
 refine wp_seq ?_
 have hd3:(s == (0))=false:=by have:¬ (s=0):=(by first|exact ok|(rw [← HU.out];exact HPM.out));simpa using this
 have lx2:=kc0_ I
 refine ks7_ fun K O T Y=>?_
 refine tk ?_
 refine ck Tryz.call139 (fun w' hw=>fsign_any a s _ (HSG.out)) ?_
 refine tk2_ ?_
 iterate 2 refine sk ?_
 refine tk ?_
 refine nz Y I O ?_;clear Y T I lx2 O K;intro vw4 I
 clear hd3
 refine wp_cond_false (by rfl) ?_
 refine wp_skip ?_
 show Code.wp _ _ _ _ _
 refine wp_seq ?_
 refine ks2_ fun K O T Y=>?_
 refine tk2_ ?_
 refine nz Y I O ?_;clear Y T I O K;intro vw5 I
 refine wp_cond_false (by rfl) ?_
 refine wp_skip ?_
 show Code.wp _ _ _ _ _
 refine wp_seq ?_
 have hd4:¬ (m < -20):=by first|exact ok|(rw [← HU.out];exact HPM.out)
 have hd5:¬ (20<m):=by first|exact ok|(rw [← HU.out];exact HPM.out)
 have hd6:¬ (k < -20):=by first|exact ok|(rw [← HU.out];exact HPM.out)
 have hd7:¬ (20<k):=by first|exact ok|(rw [← HU.out];exact HPM.out)
 have hd8:(s == (0))=false:=by have:¬ (s=0):=(by first|exact ok|(rw [← HU.out];exact HPM.out));simpa using this
 have lx2:=kc0_ I
 refine qU5 fun K O T Y=>?_
 iterate 16 refine tk ?_
 refine ck Tryz.call139 (fun w' hw=>fsign_any a s _ (HSG.out)) ?_
 refine tk2_ ?_
 iterate 8 refine sk ?_
 refine tk2_ ?_
 refine nz Y I O ?_;clear Y T I lx2 O K;intro vw6 I
 clear hd4 hd5 hd6 hd7 hd8
 refine wp_cond_false (by rfl) ?_
 refine wp_skip ?_
 show Code.wp _ _ _ _ _
 have lx2:=kc0_ I
 refine qa2 fun K O T Y=>?_
 refine tk2_ ?_
 refine ck Tryz.call151 (fun w' hw=>zpw_any a q k _ (HQ.out) om om (Or.inl HZA.out) HNB.out HDB.out om) ?_
 refine tk3_ ?_
 refine nlS Y I fun vw7 J=>?_
 clear Y T I lx2
 go_wp2
 refine kF_ O ((J.out).aL (vw7.heap.size)) fun Wx11 I=>?_;clear O K
 clear J
 generalize vw7.heap.size=gx4 at *
 have hw12:IntKind.i64.wrap (m+k)=m+k:=by rw [IntKind.wrap_i64];omega
 have lx2:=kc0_ I
 refine qd4 fun K O T Y=>?_
 iterate 4 refine tk ?_
 refine ck Tryz.call151 (fun w' hw=>zpw_any a r (m+k) _ (HR.out) om om (Or.inl HZA.out) HNB.out HDB.out om) ?_
 refine tk3_ ?_
 refine nlS Y I fun vw8 J=>?_
 clear Y T I lx2
 go_wp2
 refine kF_ O ((J.out).aL (vw8.heap.size)) fun Wx12 I=>?_;clear O K
 clear J
 generalize vw8.heap.size=gx5 at *
 clear hw12
 have HZ2:Hid (((1:Int):Rat)=(1:Rat)):=lh_ (by decide +kernel)
 have su2:sz ((1:Rat))≤2:=sz_of (wl_le.2 (by decide +kernel)) (wl_le.2 (by decide +kernel))
 refine ks1_ fun K O T Y=>?_
 refine ck Tryz.call147 (fun w' hw=>fint_any (1) (1:Rat) _ HZ2.out om om) ?_
 refine nlS Y I fun vw9 J=>?_
 clear Y T I
 go_wp2
 refine kF_ O ((J.out).aL (vw9.heap.size)) fun Wx13 I=>?_;clear O K
 clear J
 generalize vw9.heap.size=gx6 at *
 refine wp_seq ?_
 refine kSl fun K O=>?_;go_wp2
 refine kF_ O (I.out) fun Wx14 J=>?_;clear O K
 clear I;have I:=J;clear J
 refine wp_block ?_
 go_loopg [15] M (fun kk iv wr=>∃ (i:Nat) (u:Rat),iv=.int .i64 ((i:Nat):Int)∧i+kk=M∧Hid (a ^ i=u)∧Hid (HP w wr [Sum.inl (gx2,36,#[.int .u64 (lo a.num.natAbs),.string (bg a.num.natAbs),.bool (a.num<0),.int .u64 (lo (a.den - 1)),.string (bg (a.den - 1))]),Sum.inl (gx3,36,#[.int .u64 (lo p.num.natAbs),.string (bg p.num.natAbs),.bool (p.num<0),.int .u64 (lo (p.den - 1)),.string (bg (p.den - 1))]),Sum.inl (gx4,36,#[.int .u64 (lo q.num.natAbs),.string (bg q.num.natAbs),.bool (q.num<0),.int .u64 (lo (q.den - 1)),.string (bg (q.den - 1))]),Sum.inl (gx5,36,#[.int .u64 (lo r.num.natAbs),.string (bg r.num.natAbs),.bool (r.num<0),.int .u64 (lo (r.den - 1)),.string (bg (r.den - 1))]),Sum.inl (gx6,36,#[.int .u64 (lo u.num.natAbs),.string (bg u.num.natAbs),.bool (u.num<0),.int .u64 (lo (u.den - 1)),.string (bg (u.den - 1))])]))
 case atStart=>exact ⟨0,1,rfl,by omega,lh_ (by rw [Rat.pow_zero]),I⟩
 case round =>
  rename_i J_ K_ hj1_ hj0_
  clear I
  obtain ⟨i,u,rfl,hik,HU,I⟩:=hrel
  have hsu:sz u≤8192:=by rw [← HU.out];exact sz_pwn om HNB.out HDB.out
  rcases gk with _|kk
  ·obtain rfl:M=i:=by omega
   refine wp_seq ?_
   have hwm:IntKind.i64.wrap (-m) = -m:=by rw [IntKind.wrap_i64];omega
   have hlt9:¬ ((M:Nat):Int)<((M:Nat):Int):=by omega
   refine qa2 fun K O T Y=>?_
   refine tk3_ ?_
   refine wpPlan_takeL (v:=?_) rfl (by rfl) (fun w' hw=>?_) ?_
   rotate_left
   ·go_simp
    first|(simp only [hwm];with_reducible rfl)|with_reducible rfl
   simp only [Act.put,lA,lB,lC]
   refine tk2_ ?_
   refine nz Y I O ?_;clear Y T I O K;intro vw10 I
   clear hwm hlt9
   refine wp_cond_false (by rfl) ?_
   refine wp_exit ?_
   show Code.wp _ _ _ _ _
   refine wp_seq ?_
   have hd9:m<0:=by first|exact ok|(rw [← HU.out];exact HPM.out)
   refine ks2_ fun K O T Y=>?_
   refine tk2_ ?_
   refine nzR Y O (fun w2 hg=>(I.out.gr hg).er 0) ?_;clear Y T I O K;intro Wx18 I
   clear hd9
   refine wp_cond_true (by rfl) ?_
   have HZ3:Hid (((1:Int):Rat)=(1:Rat)):=lh_ (by decide +kernel)
   have su3:sz ((1:Rat))≤2:=sz_of (wl_le.2 (by decide +kernel)) (wl_le.2 (by decide +kernel))
   have HZ4:Hid ((1:Rat) / u=p):=lh_ (by rw [← HU.out,HPI.out])
   have su4:sz p≤8192:=by have e:=HZ4.out;first|omega|(rw [← e];have:=sz_div (1:Rat) u;omega)
   have lx6:=kc3_ I
   refine kL fun K O=>?_
   refine wp_region_plan 6 [] [5] (fun _=>0) (fun _=>.cells #[] 0) [(true,1),(true,0),(true,2),(true,3),(true,4),(true,5)] (by kernel_rfl) (by kernel_rfl) (fun i hi=>by cases hi) qr6 (fun _ _ _ _ _ h=>h) (fun T Y=>?_)
   refine tk ?_
   refine ck Tryz.call147 (fun w' hw=>fint_any (1) (1:Rat) _ HZ3.out om om) ?_
   refine ck Tryz.call79 (fun w' hw=>fdiv_any (1:Rat) u p _ HZ4.out (by first|exact ok|(rw [← HU.out];exact HPM.out)) om om) ?_
   refine tk3_ ?_
   refine wpPlan_nil (Y.out _ _ ?_)
   intro G vw12 hg hf
   simp only [puts,Act.put,lA,lB,lC,lD,lE,↓reduceIte,Nat.reduceEqDiff]
   have J:=lh_ (I.out.gr hg)
   clear Y T I hg hf lx6
   have lx6:=kc3_ J;have fx6:=kf3_ J
   have r0:=Gr.refl vw12
   go_wp2
   refine kO O ?_;clear O K
   clear r0 lx6 fx6
   refine fH ((((J.out).put2 3 0 rfl).put2 3 2 rfl).put 3 4 _ rfl) fun Wx19 I=>?_
   clear J
   have HB:=HPb I
   have HZ5:Hid (p*(q)=r):=lh_ (HPQ.out)
   have su5:sz r≤8192:=by have e:=HZ5.out;first|omega|(rw [← e];have:=sz_mul p q;omega)
   have lx3:=kc0_ I
   have lx4:=kc1_ I
   have lx5:=kc2_ I
   have lx6:=kc3_ I
   refine kS fun K O=>?_
   refine xp6 fun T Y=>?_
   iterate 6 refine tk ?_
   refine ck Tryz.call134 (fun w' hw=>fmul_any p q r _ HZ5.out om om) ?_
   iterate 8 refine tk ?_
   refine ck Tryz.call62 (fun w' hw=>worksq_any _ (lh_ (HT.out.gr (Gr.trans HB.out hw)))) ?_
   refine tk ?_
   refine nlD Y I fun vw13 J=>?_
   clear Y T I lx3 lx4 lx5 lx6 HB
   go_wp2
   refine kF_ O (((((J.out).er 3).er 2).er 1).er 0) fun Wx20 I=>?_;clear O K
   clear J
   refine wp_ret ?_
   try simp only [Exit.then,Exit.inBlock]
   exact bR ⟨rfl,I.out.1⟩ qB9
  obtain ⟨v,HV⟩:∃ v,Hid (u*a=v):=⟨_,lh_ rfl⟩
  refine wp_seq ?_
  have hwm:IntKind.i64.wrap (-m) = -m:=by rw [IntKind.wrap_i64];omega
  have hlt9:((i:Nat):Int)<((M:Nat):Int):=by omega
  refine qa2 fun K O T Y=>?_
  refine tk3_ ?_
  refine wpPlan_takeL (v:=?_) rfl (by rfl) (fun w' hw=>?_) ?_
  rotate_left
  ·go_simp
   first|(simp only [hwm];with_reducible rfl)|with_reducible rfl
  simp only [Act.put,lA,lB,lC]
  refine tk2_ ?_
  refine nz Y I O ?_;clear Y T I O K;intro vw10 I
  clear hwm hlt9
  refine wp_cond_true (by rfl) ?_
  refine wp_skip ?_
  show Code.wp _ _ _ _ _
  refine wp_seq ?_
  refine wp_block ?_
  have HZ3:Hid (u*(a)=v):=lh_ (HV.out)
  have su3:sz v≤20000:=by have e:=HZ3.out;first|omega|(rw [← e];have:=sz_mul u a;omega)
  have lx2:=kc0_ I
  have lx6:=kc4_ I
  refine kL fun K O=>?_
  refine sq3_ fun T Y=>?_
  refine tk2_ ?_
  refine ck Tryz.call134 (fun w' hw=>fmul_any u a v _ HZ3.out om om) ?_
  refine nlS Y I fun vw11 J=>?_
  clear Y T I lx2 lx6
  have lx6:=kc4_ J;have fx6:=kf4_ J
  have r0:=Gr.refl vw11
  go_wp2
  refine kO O ?_;clear O K
  clear r0 lx6 fx6
  refine fH ((((J.out).put2 4 0 rfl).put2 4 2 rfl).put 4 4 _ rfl) fun Wx17 I=>?_
  clear J
  have hwi:IntKind.i64.wrap ((i:Int)+1)=(i:Int)+1:=by rw [IntKind.wrap_i64];omega
  refine kL fun K O=>?_
  refine sq3_ fun T Y=>?_
  refine tk3_ ?_
  refine nlS Y I fun vw12 J=>?_
  clear Y T I
  go_wp2
  refine O.out _ _ ?_;clear O K
  try simp only [Exit.then,Exit.inBlock]
  have I:=lh_ (J.out);clear J
  clear hwi
  refine hj0_ _ _ ?_
  go_roundg kk
  case measure=>omega
  case rel=>exact ⟨i+1,v,by go_num,by omega,lh_ (by rw [← HV.out,← HU.out,Rat.pow_succ]),lh_ (I.out)⟩
theorem powq_law (n d m k:Int) (w:World) (h1:-9223372036854775808≤n) (h2:n≤9223372036854775807) (h3:0≤d) (h4:d≤4294967295) (hn:nb (qv n d).num.natAbs≤64) (hd:nb (qv n d).den≤64) (hk1:-20≤k) (hk2:k≤20) (hc:-20≤m∨m < -4096∨qv n d=0) (hz:qv n d=0→m<0∨(0≤m∧m≤20)) (hq:qv n d=0 → -4096≤m) (HT:Hid (Tab w)) :
  CB 59 #[.agg #[.int .i64 n,.int .u32 d],.int .i64 m,.int .i64 k] w (.bool true):=by
 by_cases c1:m < -4096
 ·exact powq_lo n d m k _ w (lh_ rfl) h1 h2 h3 h4 c1 HT
 by_cases c2:4096<m
 ·exact powq_hi n d m k _ w (lh_ rfl) h1 h2 h3 h4 c2 HT
 by_cases c3:qv n d=0
 ·rcases hz c3 with c4|⟨c4,c5⟩
  ·exact powq_zero n d m k _ w (lh_ rfl) h1 h2 h3 h4 c4 om (lh_ c3) HT
  by_cases c6:k<0
  ·exact powq_out n d m k _ _ w (lh_ rfl) h1 h2 h3 h4 (lh_ hn) (lh_ hd) (lh_ c3) c4 c5 c6 hk1 (lh_ rfl) HT
  exact powq_mz n d m k _ _ _ _ m.toNat w (lh_ rfl) h1 h2 h3 h4 (lh_ hn) (lh_ hd) (lh_ c3) c4 om om c5 hk1 hk2 (lh_ rfl) (lh_ rfl) (lh_ rfl) (lh_ (zpw_add m k (.inr ⟨c4,by omega⟩))) (lh_ om) om (sz_zpw om om (.inr om) hn hd) (sz_zpw om om (.inr om) hn hd) (sz_zpw om om (.inr om) hn hd) (lh_ (by rw [← zpw_nat,show ((m.toNat:Nat):Int)=m by omega])) HT
 have hs0:¬ sgQ (qv n d)=0:=sgQ_ne (fun e=>c3 e)
 by_cases c4:20<m
 ·exact powq_big n d m k _ _ _ w (lh_ rfl) h1 h2 h3 h4 c4 om (lh_ hn) (lh_ hd) (lh_ rfl) (lh_ rfl) hs0 HT
 have c5:-20≤m:=by rcases hc with h|h|h <;> first|omega|exact absurd h c3
 by_cases c6:m<0
 ·obtain ⟨j,rfl⟩:∃ j:Nat,m = -(j:Int):=⟨(-m).toNat,by omega⟩
  have hj:0<j:=by omega
  have hi:=zpw_inv c3 j
  refine powq_mg n d _ k _ _ _ _ j _ w (lh_ rfl) h1 h2 h3 h4 (lh_ hn) (lh_ hd) (lh_ c3) (lh_ rfl) hs0 c6 c5 om hk1 hk2 (lh_ rfl) (lh_ rfl) (lh_ rfl) (lh_ (zpw_add _ k (.inl c3))) (lh_ om) om (sz_zpw om om (.inl c3) hn hd) (sz_zpw om om (.inl c3) hn hd) (sz_zpw om om (.inl c3) hn hd) (lh_ (by rw [zpw_neg _ hj,hi])) (lh_ ?_) HT
  intro e
  have h5:=zpw_add (a:=qv n d) (-(j:Int)) ((j:Nat):Int) (.inl c3)
  rw [zpw_nat,e,Rat.mul_zero,show -((j:Nat):Int)+((j:Nat):Int)=((0:Nat):Int) by omega,zpw_nat,Rat.pow_zero] at h5
  exact absurd h5 (by decide +kernel)
 exact powq_mn n d m k _ _ _ _ m.toNat _ w (lh_ rfl) h1 h2 h3 h4 (lh_ hn) (lh_ hd) (lh_ c3) (lh_ rfl) hs0 om c5 om hk1 hk2 (lh_ rfl) (lh_ rfl) (lh_ rfl) (lh_ (zpw_add m k (.inl c3))) (lh_ om) om (sz_zpw om om (.inl c3) hn hd) (sz_zpw om om (.inl c3) hn hd) (sz_zpw om om (.inl c3) hn hd) (lh_ (by rw [← zpw_nat,show ((m.toNat:Nat):Int)=m by omega])) HT
end Go.Proofs.YtobojnodohjiaaaGreatDoor
