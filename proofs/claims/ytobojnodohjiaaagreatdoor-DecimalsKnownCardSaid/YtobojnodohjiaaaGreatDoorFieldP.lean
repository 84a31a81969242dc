
/- plain facts of FracsField. -/
import Derived.Test.YtobojnodohjiaaaGreatDoorHp
import Derived.Test.YtobojnodohjiaaaGreatDoorIntE
import Derived.Test.YtobojnodohjiaaaGreatDoorPJ
import Derived.Test.YtobojnodohjiaaaGreatDoorPT
import Derived.Test.YtobojnodohjiaaaGreatDoorPE
import Derived.Test.YtobojnodohjiaaaGreatDoorPP
import Derived.Lib.Strings
import Derived.Test.YtobojnodohjiaaaGreatDoorPL
import Derived.Test.YtobojnodohjiaaaGreatDoorPV
set_option maxRecDepth 100000
set_option maxHeartbeats 16000000
set_option linter.unusedVariables false
set_option linter.unusedSimpArgs false
namespace Go.Proofs.YtobojnodohjiaaaGreatDoor
open Go.RowKit
attribute [local go_sem ↓] Go.wp_at_zero Go.wp_at_succ
attribute [local go_sem ↓] eq_nat eq_nat_zero eq_int
theorem zlof (bx:Bool) (kx:Nat) (fx:Nat→Nat) (mx:Nat) (a:Int) (ao_x:Option Addr) (c_x:Nat) (w:World) (HWx:Hid (Wa w (.slice ao_x kx c_x) kx fx)) (HFx:Hid (∀ i,i<kx→fx i<4294967296)) (HVx:Hid (vl fx kx=mx)) (HAx:Hid ((if bx then -((mx:Nat):Int) else ((mx:Nat):Int))=a)) (hkx:kx≤100) (hmx:wl mx≤100) :
  CB 32 #[.agg #[.bool bx,(.slice ao_x kx c_x)]] w (.agg #[.int .u64 (lo a.natAbs),.string (bg a.natAbs),.bool (a<0)]):=by
 go_enter Tryz.func32,Tryz.ntmps32
 have I:=lh_ (hp0 w)
 refine kSl fun K O=>?_;go_wp2
 refine kF_ O (al2_ I) fun Wx0 J=>?_;clear O K
 clear I;have I:=J;clear J
 generalize w.heap.size+1=gx1 at *
 have HB:=HPb I
 have HZ1:Hid ((if bx then -((mx:Nat):Int) else ((mx:Nat):Int))=a):=lh_ (HAx.out)
 have su1:wl a.natAbs≤100:=by have e:=HZ1.out;first|omega|(rw [← e];split <;> simp <;> omega)
 have lx0:=kc0_ I
 refine kS fun K O=>?_
 refine pd5_ fun T Y=>?_
 iterate 4 refine tk ?_
 refine ck Tryz.call31 (fun w' hw=>xS0 _ kx fx mx w _ HVx.out om HWx.out (Gr.trans HB.out hw) HFx.out) ?_
 refine ck Tryz.call37 (fun w' hw=>qa8 bx mx a _ HZ1.out) ?_
 refine nlD Y I fun vw1 J=>?_
 clear Y T I lx0 HB
 have lx1:=kc1_ J;have fx1:=kf1_ J
 have r0:=Gr.refl vw1
 go_wp2
 refine kO O ?_;clear O K
 clear r0 lx1 fx1
 refine fH ((((J.out).put2 1 0 rfl).put 1 2 _ rfl).er 0) fun Wx1 I=>?_
 clear J
 refine wp_ret ?_
 try simp only [Exit.then,Exit.inBlock]
 have lx1:=kc0_ I
 have r0:=Gr.refl Wx1
 exact bR ⟨rfl,I.out.1⟩ (by simp [results,Tryz.results32,go_sem,lx1 _ r0])
theorem xN9 (bx:Bool) (kx:Nat) (fx:Nat→Nat) (mx:Nat) (a:Int) (ao_x:Option Addr) (c_x:Nat) (w:World) (HWx:Hid (Wa w (.slice ao_x kx c_x) kx fx)) (HFx:Hid (∀ i,i<kx→fx i<4294967296)) (HVx:Hid (vl fx kx=mx)) (HAx:Hid ((if bx then -((mx:Nat):Int) else ((mx:Nat):Int))=a)) (hkx:kx≤100) (hmx:wl mx≤100) :
  Calls Tryz.prog 209 #[.agg #[.bool bx,.slice ao_x kx c_x]] w fun e w'=>(∃ r1:Value,e=.returned (.agg #[.bool (decide (a<0)),r1])∧Rn w' r1 (Int.natAbs a))∧Gr w w':=by
 go_enter Tryz.func209,Tryz.ntmps209
 have I:=lh_ (hp0 w)
 refine kSl fun K O=>?_;go_wp2
 refine kF_ O (al2_ I) fun Wx0 J=>?_;clear O K
 clear I;have I:=J;clear J
 generalize w.heap.size+1=gx1 at *
 have HB:=HPb I
 have su1:tw mx≤300:=by rw [← HVx.out];have:=qD2 (vl fx kx);have:=qa2.2 (qe3 HFx.out);omega
 have HZ2:Hid ((if bx then -((mx:Nat):Int) else ((mx:Nat):Int))=a):=lh_ (HAx.out)
 have su2:tw a.natAbs≤300:=by have e:=HZ2.out;first|omega|(rw [← e];split <;> simp <;> omega)
 have lx0:=kc0_ I
 refine kS fun K O=>?_
 have HG0:Hid (Gr Wx0 Wx0):=lh_ (Gr.refl _)
 refine xP7 fun T Y=>?_
 iterate 4 refine tk ?_
 refine ce1 Tryz.call251 HG0 (fun w' hw=>xS2 _ kx fx mx w _ HVx.out om HWx.out (Gr.trans HB.out hw) HFx.out) ?_;clear HG0;intro vv3 HG0 HGS ao1 nn1 cc1 RN3
 replace HB:=lh_ (HB.out.trans (HGS.out.mono HB.out.size))
 clear HGS
 clear lx0;have lx0:=fun w' (h:Gr _ w')=>kc0_ I w' (HG0.out.trans h)
 refine ce1 Tryz.call196 HG0 (fun w' hw=>qb5 bx mx a _ _ HZ2.out (RN3.out.gr hw)) ?_;clear HG0;intro vv4 HG0 HGS ao2 nn2 cc2 RN4
 replace RN3:=lh_ (RN3.out.gr HGS.out)
 replace HB:=lh_ (HB.out.trans (HGS.out.mono HB.out.size))
 clear HGS
 clear lx0;have lx0:=fun w' (h:Gr _ w')=>kc0_ I w' (HG0.out.trans h)
 refine qa0 (Y.out _ _ ?_)
 intro G vw1 hg hf
 simp only [puts,Act.put,lA,lB,lC,lD,lE,↓reduceIte,Nat.reduceEqDiff]
 have J:=lh_ (((I.out.gr (HG0.out.trans hg)).ar (RN3.out.gr hg)).ar (RN4.out.gr hg))
 simp only [zq1_,zq2_,zq3_,zq4_,lF,lG] at J
 clear Y T I hg hf HG0 RN3 RN4 lx0 HB
 have lx1:=kc1_ J;have fx1:=kf1_ J
 have r0:=Gr.refl vw1
 go_wp2
 refine kO O ?_;clear O K
 clear r0 lx1 fx1
 refine fH ((((J.out).put2 1 0 rfl).er 2).er 0) fun Wx1 I=>?_
 clear J
 refine wp_ret ?_
 try simp only [Exit.then,Exit.inBlock]
 have lx1:=kc0_ I
 have r0:=Gr.refl Wx1
 exact bR ⟨⟨(.slice ao2 nn2 cc2),rfl,(by rw [show Int.natAbs a=Int.natAbs a from rfl];exact (I.out.rn 1 rfl))⟩,I.out.1⟩ (by simp [results,Tryz.results209,go_sem,lx1 _ r0])
end Go.Proofs.YtobojnodohjiaaaGreatDoor

set_option linter.unusedVariables false
set_option linter.unusedSimpArgs false
namespace Go.Proofs.YtobojnodohjiaaaGreatDoor
open Go.RowKit
attribute [local go_sem ↓] Go.wp_at_zero Go.wp_at_succ
theorem qo9 {b:Bool} {n:Nat} {a:Int} (h:(if b then -((n:Nat):Int) else ((n:Nat):Int))=a):a.natAbs=n:=by
 rw [← h];split <;> simp
end Go.Proofs.YtobojnodohjiaaaGreatDoor

set_option maxRecDepth 100000
set_option maxHeartbeats 16000000
set_option linter.unusedVariables false
set_option linter.unusedSimpArgs false
namespace Go.Proofs.YtobojnodohjiaaaGreatDoor
section
open Go.RowKit
def itx (a:Int):ByteArray:=if a<0 then (⟨#[45]⟩:ByteArray) ++ ⟨(Lib.decDigits a.natAbs).toArray⟩ else ⟨(Lib.decDigits a.natAbs).toArray⟩
theorem xa_ (a:Int) (w:World) (ha:wl a.natAbs≤900000) (HT:Hid (Tab w)) :
  CB 141 #[(Value.agg #[.int .u64 (lo a.natAbs),.string (bg a.natAbs),.bool (a<0)])] w (.string (itx a)):=by
 by_cases hn:a<0
 ·have HS1:Hid (decide (a<0)=true):=decide_eq_true hn
  have HSG:Hid (itx a=(⟨#[45]⟩:ByteArray) ++ ⟨(Lib.decDigits a.natAbs).toArray⟩):=if_pos hn
  clear hn
  rw [HSG.out,HS1.out]
  obtain ⟨W0,HW⟩:=ex_ ((w.alloc (.cells #[.int .u64 (lo (a.natAbs)),.string (bg (a.natAbs)),.bool true] 34)))
  have HS:=lh_ (show w.heap.size+1=W0.heap.size by rw [← HW.out];simp)
  have z0:w.heap.size<W0.heap.size:=by rw [← HS.out];omega
  have c0_0:W0.cell? ⟨w.heap.size,0,none⟩=some (.int .u64 (lo (a.natAbs))):=by rw [← HW.out];simp [go_sem]
  have c0_1:W0.cell? ⟨w.heap.size,1,none⟩=some (.string (bg (a.natAbs))):=by rw [← HW.out];simp [go_sem]
  have c0_2:W0.cell? ⟨w.heap.size,2,none⟩=some (.bool true):=by rw [← HW.out];simp [go_sem]
  have f_0:W0.frozen? ⟨w.heap.size,0,none⟩=false:=by rw [← HW.out];simp [go_sem]
  have f_1:W0.frozen? ⟨w.heap.size,1,none⟩=false:=by rw [← HW.out];simp [go_sem]
  have f_2:W0.frozen? ⟨w.heap.size,2,none⟩=false:=by rw [← HW.out];simp [go_sem]
  have hbw:Below w.heap.size w W0:=by rw [← HW.out];exact (Below.refl _ _).alloc (Nat.le_refl _) _
  have HR:Hid (∀ w1:World,Below W0.heap.size W0 w1→w1.cell? ⟨w.heap.size,0,none⟩=some (.int .u64 (lo (a.natAbs)))∧w1.cell? ⟨w.heap.size,1,none⟩=some (.string (bg (a.natAbs)))∧w1.cell? ⟨w.heap.size,2,none⟩=some (.bool true)∧w1.frozen? ⟨w.heap.size,0,none⟩=false∧w1.frozen? ⟨w.heap.size,1,none⟩=false∧w1.frozen? ⟨w.heap.size,2,none⟩=false∧Below w.heap.size w w1):=fun w1 hb=>⟨(held W0 w1 hb _ _ z0).trans c0_0,(held W0 w1 hb _ _ z0).trans c0_1,(held W0 w1 hb _ _ z0).trans c0_2,(qc8 W0 w1 hb _ _ z0).trans f_0,(qc8 W0 w1 hb _ _ z0).trans f_1,(qc8 W0 w1 hb _ _ z0).trans f_2,grow hbw hb⟩
  have HBW:=lh_ hbw
  clear hbw
  have hlen:¬ (9223372036854775807<1+(Lib.decDigits a.natAbs).length):=by rw [Lib.decDigits_length];have:=qf4 a.natAbs;have:=qT2 a.natAbs;omega
  go_enter Tryz.func141,Tryz.ntmps141
  go_wp2_with fail
  rw [HW.out]
  refine (qD0 a.natAbs _ om (lh_ (HT.out.gr HBW.out))).mono ?_
  rintro e w1 ⟨rfl,hb1⟩
  clear c0_0 c0_1 c0_2 f_0 f_1 f_2 HBW;obtain ⟨c0_0,c0_1,c0_2,f_0,f_1,f_2,hbw⟩:=HR.out w1 hb1;have HBW:=lh_ hbw;clear hbw
  go_wp2_with fail
  go_ret
  exact ⟨rfl,HBW.out⟩
 have HS1:Hid (decide (a<0)=false):=decide_eq_false hn
 have HSG:Hid (itx a=⟨(Lib.decDigits a.natAbs).toArray⟩):=if_neg hn
 clear hn
 rw [HSG.out,HS1.out]
 obtain ⟨W0,HW⟩:=ex_ ((w.alloc (.cells #[.int .u64 (lo (a.natAbs)),.string (bg (a.natAbs)),.bool false] 34)))
 have HS:=lh_ (show w.heap.size+1=W0.heap.size by rw [← HW.out];simp)
 have z0:w.heap.size<W0.heap.size:=by rw [← HS.out];omega
 have c0_0:W0.cell? ⟨w.heap.size,0,none⟩=some (.int .u64 (lo (a.natAbs))):=by rw [← HW.out];simp [go_sem]
 have c0_1:W0.cell? ⟨w.heap.size,1,none⟩=some (.string (bg (a.natAbs))):=by rw [← HW.out];simp [go_sem]
 have c0_2:W0.cell? ⟨w.heap.size,2,none⟩=some (.bool false):=by rw [← HW.out];simp [go_sem]
 have f_0:W0.frozen? ⟨w.heap.size,0,none⟩=false:=by rw [← HW.out];simp [go_sem]
 have f_1:W0.frozen? ⟨w.heap.size,1,none⟩=false:=by rw [← HW.out];simp [go_sem]
 have f_2:W0.frozen? ⟨w.heap.size,2,none⟩=false:=by rw [← HW.out];simp [go_sem]
 have hbw:Below w.heap.size w W0:=by rw [← HW.out];exact (Below.refl _ _).alloc (Nat.le_refl _) _
 have HR:Hid (∀ w1:World,Below W0.heap.size W0 w1→w1.cell? ⟨w.heap.size,0,none⟩=some (.int .u64 (lo (a.natAbs)))∧w1.cell? ⟨w.heap.size,1,none⟩=some (.string (bg (a.natAbs)))∧w1.cell? ⟨w.heap.size,2,none⟩=some (.bool false)∧w1.frozen? ⟨w.heap.size,0,none⟩=false∧w1.frozen? ⟨w.heap.size,1,none⟩=false∧w1.frozen? ⟨w.heap.size,2,none⟩=false∧Below w.heap.size w w1):=fun w1 hb=>⟨(held W0 w1 hb _ _ z0).trans c0_0,(held W0 w1 hb _ _ z0).trans c0_1,(held W0 w1 hb _ _ z0).trans c0_2,(qc8 W0 w1 hb _ _ z0).trans f_0,(qc8 W0 w1 hb _ _ z0).trans f_1,(qc8 W0 w1 hb _ _ z0).trans f_2,grow hbw hb⟩
 have HBW:=lh_ hbw
 clear hbw
 go_enter Tryz.func141,Tryz.ntmps141
 go_wp2_with fail
 rw [HW.out]
 refine (qD0 a.natAbs _ om (lh_ (HT.out.gr HBW.out))).mono ?_
 rintro e w1 ⟨rfl,hb1⟩
 clear c0_0 c0_1 c0_2 f_0 f_1 f_2 HBW;obtain ⟨c0_0,c0_1,c0_2,f_0,f_1,f_2,hbw⟩:=HR.out w1 hb1;have HBW:=lh_ hbw;clear hbw
 go_wp2_with fail
 go_ret
 exact ⟨rfl,HBW.out⟩
theorem qU6 (a:Int) (v:Value) (w:World) (hv:Rn w v a.natAbs) (hb:tw a.natAbs≤10000000) :
  CB 143 #[.agg #[.bool (decide (a<0)),v]] w (.string (itx a)):=by
 have HR:=lh_ hv
 clear hv
 have HB0:Hid (Below w.heap.size w (w.alloc (.cells #[.bool (decide (a<0)),v] 45))):=lh_ ((Below.refl _ _).alloc (Nat.le_refl _) _)
 by_cases hn:a<0
 ·have HS1:Hid (decide (a<0)=true):=decide_eq_true hn
  have HSG:Hid (itx a=(⟨#[45]⟩:ByteArray) ++ ⟨(Lib.decDigits a.natAbs).toArray⟩):=if_pos hn
  clear hn
  rw [HSG.out]
  rw [HS1.out] at HB0 ⊢
  have hlen:¬ (9223372036854775807<1+(Lib.decDigits a.natAbs).length):=by rw [Lib.decDigits_length];have:=qf4 a.natAbs;have:=xx7 a.natAbs;omega
  go_enter Tryz.func143,Tryz.ntmps143
  go_wp2_with fail
  refine (qx1 v a.natAbs _ (HR.out.gr HB0.out) hb).mono ?_
  rintro e w2 ⟨rfl,hb2⟩
  have HB2:Hid (Gr w w2):=lh_ (Gr.trans HB0.out hb2)
  clear hb2
  go_wp2_with fail
  go_ret
  exact ⟨rfl,HB2.out⟩
 have HS1:Hid (decide (a<0)=false):=decide_eq_false hn
 have HSG:Hid (itx a=⟨(Lib.decDigits a.natAbs).toArray⟩):=if_neg hn
 clear hn
 rw [HSG.out]
 rw [HS1.out] at HB0 ⊢
 go_enter Tryz.func143,Tryz.ntmps143
 go_wp2_with fail
 refine (qx1 v a.natAbs _ (HR.out.gr HB0.out) hb).mono ?_
 rintro e w2 ⟨rfl,hb2⟩
 have HB2:Hid (Gr w w2):=lh_ (Gr.trans HB0.out hb2)
 clear hb2
 go_wp2_with fail
 go_ret
 exact ⟨rfl,HB2.out⟩
end
section
open Go.RowKit
attribute [local go_sem ↓] Go.wp_at_zero Go.wp_at_succ
theorem xu3 (a:Int) (s:ByteArray) (w:World) (hs:itx a=s) (ha:wl a.natAbs≤900000) (HT:Hid (Tab w)) :
  CB 141 #[(Value.agg #[.int .u64 (lo a.natAbs),.string (bg a.natAbs),.bool (a<0)])] w (.string s):=hs ▸ xa_ a w ha HT
theorem xh_ (a:Int) (s:ByteArray) (v:Value) (w:World) (hs:itx a=s) (hv:Rn w v a.natAbs) (hb:tw a.natAbs≤10000000) :
  CB 143 #[.agg #[.bool (decide (a<0)),v]] w (.string s):=hs ▸ qU6 a v w hv hb
end
end Go.Proofs.YtobojnodohjiaaaGreatDoor

set_option linter.unusedVariables false
set_option linter.unusedSimpArgs false
namespace Go.Proofs.YtobojnodohjiaaaGreatDoor
def lv (l:List UInt8):Nat:=l.foldl (fun n c=>10*n+(c.toNat - 48)) 0
theorem qw5 (l:List UInt8) (c:UInt8):lv (l ++ [c])=10*lv l+(c.toNat - 48):=by unfold lv;rw [List.foldl_append];rfl
theorem qh2 (s:ByteArray) (i:Nat) (h:i<s.size):byt s i=(s.data.toList[i]'(by simpa using h)).toNat:=by
 rw [← qe4 h]
 rfl
theorem xd1 (s:ByteArray):∀ k,k≤s.size→pv s k=lv (s.data.toList.take k)
 | 0,_=>rfl
 | k+1,h=>by
  have hk:k<s.data.toList.length:=by have e:s.data.toList.length=s.size:=Array.length_toList;omega
  rw [List.take_succ_eq_append_getElem hk,qw5,← xd1 s k (by omega),← qh2 s k (by omega)]
  show 10*pvr s 0 k+(byt s (0+k) - 48)=10*pv s k+_
  rw [Nat.zero_add]
  rfl
theorem xn5 (s:ByteArray):pv s s.size=lv s.data.toList:=by
 rw [xd1 s s.size (Nat.le_refl _),List.take_of_length_le (by simp)]
theorem qm0 {d:Nat} (h:d<10):(UInt8.ofNat (48+d)).toNat=48+d:=by
 rw [UInt8.toNat_ofNat'];omega
theorem qj8 {u:Nat} (h:u<10):Lib.decDigits u = [UInt8.ofNat (48+u)]:=Lib.decDigits_one h
theorem qN_ (n:Nat):lv (Lib.decDigits n)=n:=by
 induction n using Nat.strongRecOn with
 | ind n ih =>
  by_cases h:n<10
  ·rw [qj8 h]
   show 10*0+((UInt8.ofNat (48+n)).toNat - 48)=n
   rw [qm0 h];omega
  rw [qc_ h,qw5,ih (n / 10) (by omega),qm0 (by omega)]
  omega
theorem qj7 (n:Nat):∀ c ∈ Lib.decDigits n,48≤c.toNat∧c.toNat≤57:=by
 induction n using Nat.strongRecOn with
 | ind n ih =>
  by_cases h:n<10
  ·rw [qj8 h]
   intro c hc
   rw [List.mem_singleton] at hc
   rw [hc,qm0 h];omega
  rw [qc_ h]
  intro c hc
  rcases List.mem_append.1 hc with hc|hc
  ·exact ih (n / 10) (by omega) c hc
  rw [List.mem_singleton] at hc
  rw [hc,qm0 (by omega)];omega
theorem qs_ (n:Nat):Lib.decDigits n ≠ []:=by
 by_cases h:n<10
 ·rw [qj8 h];simp
 rw [qc_ h];simp
theorem xj7 (n:Nat) (c:UInt8) (l:List UInt8) (h:Lib.decDigits n=c :: l) (h0:c.toNat=48):n=0:=by
 induction n using Nat.strongRecOn generalizing l with
 | ind n ih =>
  by_cases hn:n<10
  ·rw [qj8 hn] at h
   injection h with h1 _
   rw [← h1,qm0 hn] at h0
   omega
  rw [qc_ hn] at h
  cases hd:Lib.decDigits (n / 10) with
  | nil=>exact absurd hd (qs_ _)
  | cons c' l' =>
   rw [hd] at h
   injection h with h1 _
   have:=ih (n / 10) (by omega) l' (by rw [hd,h1])
   omega
theorem qo4 (l:List UInt8):(⟨l.toArray⟩:ByteArray).size=l.length:=by simp [ByteArray.size]
theorem qM0 (n:Nat):qm2 ⟨(Lib.decDigits n).toArray⟩:=by
 have hsz:=qo4 (Lib.decDigits n)
 refine ⟨?_,fun h=>?_,fun i hi=>?_⟩
 ·rw [hsz];exact List.length_pos_iff.2 (qs_ n)
 ·cases hd:Lib.decDigits n with
  | nil=>exact absurd hd (qs_ n)
  | cons c l =>
   have h0:0<(⟨(Lib.decDigits n).toArray⟩:ByteArray).size:=by rw [hsz,hd];simp
   rw [qh2 _ 0 h0] at h
   have:c.toNat=48:=by
    rw [← h]
    simp [hd]
   have hn:=xj7 n c l hd this
   subst hn
   rw [qj8 (by decide)] at hd
   injection hd with _ e
   rw [← e]
   simp [ByteArray.size]
 rw [qh2 _ i hi]
 exact qj7 n _ (by simp)
theorem qO6 (n:Nat) (h:Lib.nDigits n≤4096):pnum ⟨(Lib.decDigits n).toArray⟩=n∧qi6 ⟨(Lib.decDigits n).toArray⟩=0:=by
 have hsz:=qo4 (Lib.decDigits n)
 rw [Lib.decDigits_length] at hsz
 refine ⟨?_,?_⟩
 ·unfold pnum
  rw [if_pos ⟨by rw [hsz];exact h,qM0 n⟩,xn5]
  show lv (Lib.decDigits n).toArray.toList=n
  rw [List.toList_toArray,qN_]
 unfold qi6
 rw [if_neg (by rw [hsz];omega),if_pos (qM0 n)]
theorem xv2 {a b:Nat} (h:Lib.decDigits a=Lib.decDigits b):a=b:=by rw [← qN_ a,h,qN_]
theorem qF2 {a b:Nat} (h:a≤b):Lib.nDigits a≤Lib.nDigits b:=by
 have h1:=Lib.lt_pow_nDigits b
 have h2:=Lib.nDigits_pos b
 have:=qk1 (Lib.nDigits b - 1) a (by rw [show Lib.nDigits b - 1+1=Lib.nDigits b by omega];omega)
 omega
theorem xP5:∀ l:List UInt8,(∀ c ∈ l,c.toNat≤57)→lv l<10 ^ l.length:=by
 intro l
 induction h:l.length generalizing l with
 | zero=>intro _;rw [List.length_eq_zero_iff.1 h];decide
 | succ k ih =>
  intro hd
  have hne:l ≠ []:=fun e=>by rw [e] at h;simp at h
  obtain ⟨l',c,rfl⟩:∃ l' c,l=l' ++ [c]:=⟨l.dropLast,l.getLast hne,(List.dropLast_concat_getLast hne).symm⟩
  have:=ih l' (by simpa using h) (fun x hx=>hd x (List.mem_append_left _ hx))
  have:=hd c (by simp)
  rw [qw5,Nat.pow_succ]
  omega
theorem qI9 (c:UInt8) (l:List UInt8):lv (c :: l)=(c.toNat - 48)*10 ^ l.length+lv l:=by
 induction h:l.length generalizing l with
 | zero =>
  rw [List.length_eq_zero_iff.1 h]
  show 10*0+(c.toNat - 48)=(c.toNat - 48)*1+0
  omega
 | succ k ih =>
  have hne:l ≠ []:=fun e=>by rw [e] at h;simp at h
  obtain ⟨l',d,rfl⟩:∃ l' c,l=l' ++ [c]:=⟨l.dropLast,l.getLast hne,(List.dropLast_concat_getLast hne).symm⟩
  have:=ih l' (by simpa using h)
  rw [← List.cons_append,qw5,qw5,this,Nat.pow_succ]
  generalize (c.toNat - 48)=x
  rw [show x*(10 ^ k*10)=10*(x*10 ^ k) by rw [← Nat.mul_assoc,Nat.mul_comm]]
  omega
end Go.Proofs.YtobojnodohjiaaaGreatDoor

set_option linter.unusedVariables false
set_option linter.unusedSimpArgs false
namespace Go.Proofs.YtobojnodohjiaaaGreatDoor
open Go.RowKit
def ineg (s:ByteArray):Bool:=Lib.hasPrefix s.data.toList [45]
def idig (s:ByteArray):ByteArray:=⟨(Lib.trimPrefix s.data.toList [45]).toArray⟩
theorem qj_ (s:ByteArray):(idig s).size≤s.size:=by
 have:=Lib.trimPrefix_le s.data.toList [45]
 unfold idig
 rw [qo4]
 exact Nat.le_trans this (Nat.le_of_eq Array.length_toList)
theorem qN8 (a:Int):(itx a).data.toList=if a<0 then 45 :: Lib.decDigits a.natAbs else Lib.decDigits a.natAbs:=by
 unfold itx
 split <;> simp
theorem qB4 (a:Int):(itx a).size=(if a<0 then 1 else 0)+Lib.nDigits a.natAbs:=by
 have h:=congrArg List.length (qN8 a)
 have e:(itx a).size=(itx a).data.toList.length:=Array.length_toList.symm
 rw [e,h]
 split
 ·rw [List.length_cons,Lib.decDigits_length];omega
 rw [Lib.decDigits_length];omega
end Go.Proofs.YtobojnodohjiaaaGreatDoor

set_option maxRecDepth 100000
set_option maxHeartbeats 16000000
set_option linter.unusedVariables false
set_option linter.unusedSimpArgs false
namespace Go.Proofs.YtobojnodohjiaaaGreatDoor
section
open Go.RowKit
attribute [local go_sem ↓] Go.wp_at_zero Go.wp_at_succ
attribute [local go_sem ↓] eq_nat eq_nat_zero eq_int
theorem xw8 (q:Rat) (tx:ByteArray) (w:World) (hs_q:sz q≤100000) (HTX:Hid (itx q.num=tx)) (HW:Hid (q.den=1)) (HT:Hid (Tab w)) :
  CB 153 #[(Value.agg #[.int .u64 (lo q.num.natAbs),.string (bg q.num.natAbs),.bool (q.num<0),.int .u64 (lo (q.den - 1)),.string (bg (q.den - 1))])] w ((.string tx)):=by
 have hn_q:wl q.num.natAbs≤100000:=Nat.le_trans (qc4 q) hs_q
 have hd_q:wl (q.den)≤100000:=Nat.le_trans (qb7 q) hs_q
 go_enter Tryz.func153,Tryz.ntmps153
 have I:=lh_ (hp0 w)
 refine kSl fun K O=>?_;go_wp2
 refine kF_ O (al1_ I) fun Wx0 J=>?_;clear O K
 clear I;have I:=J;clear J
 refine wp_seq ?_
 have lx0:=kc0_ I
 refine ks2_ fun K O T Y=>?_
 refine tk ?_
 refine ck Tryz.call146 (fun w' hw=>qa3 q true _ (decide_eq_true (by exact HW.out))) ?_
 refine nz Y I O ?_;clear Y T I lx0 O K;intro vw1 I
 refine wp_cond_true (by rfl) ?_
 have HB:=HPb I
 have lx0:=kc0_ I
 refine ks4_ fun K O T Y=>?_
 refine tk2_ ?_
 refine ck Tryz.call141 (fun w' hw=>xu3 (q.num) tx _ HTX.out om (lh_ (HT.out.gr (Gr.trans HB.out hw)))) ?_
 refine tk ?_
 refine nz Y I O ?_;clear Y T I lx0 HB O K;intro vw2 I
 refine wp_ret ?_
 try simp only [Exit.then,Exit.inBlock]
 exact bR ⟨rfl,I.out.1⟩ (by simp [results,Tryz.results153,go_sem])
theorem xw7 (q:Rat) (tx ty t1 tz:ByteArray) (w:World) (hs_q:sz q≤100000) (HTX:Hid (itx q.num=tx)) (HW:Hid (¬ q.den=1)) (HTY:Hid ((⟨(Lib.decDigits (q.den)).toArray⟩:ByteArray)=ty)) (HC1:Hid (tx ++ (⟨#[47]⟩:ByteArray)=t1)) (HC2:Hid (t1 ++ ty=tz)) (hl1:tx.size≤100000000) (hl2:t1.size≤100000001) (hl3:ty.size≤100000000) (HT:Hid (Tab w)) :
  CB 153 #[(Value.agg #[.int .u64 (lo q.num.natAbs),.string (bg q.num.natAbs),.bool (q.num<0),.int .u64 (lo (q.den - 1)),.string (bg (q.den - 1))])] w ((.string tz)):=by
 have hn_q:wl q.num.natAbs≤100000:=Nat.le_trans (qc4 q) hs_q
 have hd_q:wl (q.den)≤100000:=Nat.le_trans (qb7 q) hs_q
 go_enter Tryz.func153,Tryz.ntmps153
 have I:=lh_ (hp0 w)
 refine kSl fun K O=>?_;go_wp2
 refine kF_ O (al1_ I) fun Wx0 J=>?_;clear O K
 clear I;have I:=J;clear J
 refine wp_seq ?_
 have lx0:=kc0_ I
 refine ks2_ fun K O T Y=>?_
 refine tk ?_
 refine ck Tryz.call146 (fun w' hw=>qa3 q false _ (decide_eq_false (by exact HW.out))) ?_
 refine nz Y I O ?_;clear Y T I lx0 O K;intro vw1 I
 refine csk ?_
 have HB:=HPb I
 have hlen1:¬ (9223372036854775807<tx.size+1):=by omega
 have hcat1:tx ++ (⟨#[47]⟩:ByteArray)=t1:=HC1.out
 have hlen2:¬ (9223372036854775807<t1.size+ty.size):=by omega
 have hcat2:t1 ++ ty=tz:=HC2.out
 have lx0:=kc0_ I
 refine kS fun K O=>?_
 refine xQ1 fun T Y=>?_
 refine tk3_ ?_
 refine ck Tryz.call141 (fun w' hw=>xu3 (q.num) tx _ HTX.out om (lh_ (HT.out.gr (Gr.trans HB.out hw)))) ?_
 refine tk ?_
 refine ck Tryz.call114 (fun w' hw=>qd6 q om _) ?_
 refine ck Tryz.call154 (fun w' hw=>xc3 (q.den) ty _ HTY.out om (lh_ (HT.out.gr (Gr.trans HB.out hw)))) ?_
 refine tk ?_
 refine nlD Y I fun vw2 J=>?_
 clear Y T I lx0 HB
 go_wp2
 refine kF_ O ((J.out).er 0) fun Wx3 I=>?_;clear O K
 clear J
 clear hlen1 hcat1 hlen2 hcat2
 refine wp_ret ?_
 exact bR ⟨rfl,I.out.1⟩ (by simp [results,Tryz.results153,go_sem])
def ftx (q:Rat):ByteArray:=if q.den=1 then itx q.num else itx q.num ++ (⟨#[47]⟩:ByteArray) ++ ⟨(Lib.decDigits q.den).toArray⟩
theorem xb0 {a:Int} {k:Nat} (h:wl a.natAbs≤k):(itx a).size≤32*k+2:=by
 have h1:=qf4 a.natAbs
 have h2:=qT2 a.natAbs
 have h3:=qB4 a
 rw [h3]
 have:32*wl a.natAbs≤32*k:=Nat.mul_le_mul_left _ h
 split <;> omega
theorem qM1 {n k:Nat} (h:wl n≤k):(⟨(Lib.decDigits n).toArray⟩:ByteArray).size≤32*k+1:=by
 have h1:=qf4 n
 have h2:=qT2 n
 rw [qo4,Lib.decDigits_length]
 have:32*wl n≤32*k:=Nat.mul_le_mul_left _ h
 omega
theorem qL_ (a b:ByteArray):(a ++ b).size=a.size+b.size:=by simp
theorem qw3 (q:Rat) (w:World) (hs:sz q≤100000) (HT:Hid (Tab w)) :
  CB 153 #[(Value.agg #[.int .u64 (lo q.num.natAbs),.string (bg q.num.natAbs),.bool (q.num<0),.int .u64 (lo (q.den - 1)),.string (bg (q.den - 1))])] w (.string (ftx q)):=by
 unfold ftx
 by_cases h:q.den=1
 ·rw [if_pos h]
  exact xw8 q _ w hs (lh_ rfl) (lh_ h) HT
 rw [if_neg h]
 have h1:=xb0 (Nat.le_trans (qc4 q) hs)
 have h2:=qM1 (Nat.le_trans (qb7 q) hs)
 exact xw7 q _ _ _ _ w hs (lh_ rfl) (lh_ h) (lh_ rfl) (lh_ rfl) (lh_ rfl) om (by rw [qL_];have:(⟨#[47]⟩:ByteArray).size=1:=rfl;omega) om HT
theorem xy9 (q:Rat) (tx:ByteArray) (va1 va2:Value) (w:World) (HTX:Hid (itx q.num=tx)) (hs_q:rz q≤1000000) (HW:Hid (q.den=1)) (bx21:Rn w va1 q.num.natAbs) (bx22:Rn w va2 (q.den - 1)) :
  CB 174 #[.agg #[.bool (decide (q.num<0)),va1,va2]] w ((.string tx)):=by
 have hn_q:tw q.num.natAbs≤1000000:=Nat.le_trans (qf5 q) hs_q
 have hd_q:tw (q.den)≤1000000:=Nat.le_trans (qd1 q) hs_q
 obtain ⟨ao_va1,n_va1,c_va1,rfl⟩:=Rn.sl bx21
 obtain ⟨ao_va2,n_va2,c_va2,rfl⟩:=Rn.sl bx22
 go_enter Tryz.func174,Tryz.ntmps174
 have I:=lh_ (hp0 w)
 replace I:=lh_ ((I.out.ar bx21).ar bx22)
 simp only [lF,lG] at I
 clear bx21 bx22
 refine kSl fun K O=>?_;go_wp2
 refine kF_ O (al1_ I) fun Wx0 J=>?_;clear O K
 clear I;have I:=J;clear J
 refine wp_seq ?_
 have hlz:((n_va2:Int) == 0)=true:=by have hl:=Rn.len (I.out.rn 1 rfl);have h9:=HW.out;rw [hl,h9,qj4];rfl
 have lx23:=kc2_ I
 refine ks4_ fun K O T Y=>?_
 iterate 4 refine tk ?_
 refine nz Y I O ?_;clear Y T I lx23 O K;intro vw1 I
 clear hlz
 refine wp_cond_true (by rfl) ?_
 have lx23:=kc2_ I
 refine ks4_ fun K O T Y=>?_
 refine tk2_ ?_
 refine ck Tryz.call143 (fun w' hw=>xh_ (q.num) tx _ _ HTX.out (I.out.r 0 rfl hw) om) ?_
 refine tk ?_
 refine nz Y I O ?_;clear Y T I lx23 O K;intro vw2 I
 refine wp_ret ?_
 try simp only [Exit.then,Exit.inBlock]
 exact bR ⟨rfl,I.out.1⟩ (by simp [results,Tryz.results174,go_sem])
theorem xy8 (q:Rat) (tx ty t1 tz:ByteArray) (va1 va2:Value) (w:World) (HTX:Hid (itx q.num=tx)) (hs_q:rz q≤1000000) (HW:Hid (¬ q.den=1)) (HTY:Hid ((⟨(Lib.decDigits (q.den)).toArray⟩:ByteArray)=ty)) (HC1:Hid (tx ++ (⟨#[47]⟩:ByteArray)=t1)) (HC2:Hid (t1 ++ ty=tz)) (hl1:tx.size≤100000000) (hl2:t1.size≤100000001) (hl3:ty.size≤100000000) (bx21:Rn w va1 q.num.natAbs) (bx22:Rn w va2 (q.den - 1)) :
  CB 174 #[.agg #[.bool (decide (q.num<0)),va1,va2]] w ((.string tz)):=by
 have hn_q:tw q.num.natAbs≤1000000:=Nat.le_trans (qf5 q) hs_q
 have hd_q:tw (q.den)≤1000000:=Nat.le_trans (qd1 q) hs_q
 obtain ⟨ao_va1,n_va1,c_va1,rfl⟩:=Rn.sl bx21
 obtain ⟨ao_va2,n_va2,c_va2,rfl⟩:=Rn.sl bx22
 go_enter Tryz.func174,Tryz.ntmps174
 have I:=lh_ (hp0 w)
 replace I:=lh_ ((I.out.ar bx21).ar bx22)
 simp only [lF,lG] at I
 clear bx21 bx22
 refine kSl fun K O=>?_;go_wp2
 refine kF_ O (al1_ I) fun Wx0 J=>?_;clear O K
 clear I;have I:=J;clear J
 refine wp_seq ?_
 have hlz:((n_va2:Int) == 0)=false:=by have hl:=Rn.len (I.out.rn 1 rfl);have h9:=HW.out;have hp:=q.den_pos;have ht:0<tw (q.den - 1):=qG8 om;have h8:¬ (n_va2:Int)=0:=om;simpa using h8
 have lx23:=kc2_ I
 refine ks4_ fun K O T Y=>?_
 iterate 4 refine tk ?_
 refine nz Y I O ?_;clear Y T I lx23 O K;intro vw1 I
 clear hlz
 refine csk ?_
 have hlen1:¬ (9223372036854775807<tx.size+1):=by omega
 have hcat1:tx ++ (⟨#[47]⟩:ByteArray)=t1:=HC1.out
 have HZ1:Hid (q.den=(q).den):=lh_ (rfl)
 have su1:tw (q.den)≤1000000:=by exact Nat.le_trans (qd1 _) om
 have hlen2:¬ (9223372036854775807<t1.size+ty.size):=by omega
 have hcat2:t1 ++ ty=tz:=HC2.out
 have lx23:=kc2_ I
 refine kS fun K O=>?_
 have HG0:Hid (Gr vw1 vw1):=lh_ (Gr.refl _)
 refine xQ2 fun T Y=>?_
 refine tk3_ ?_
 refine ck Tryz.call143 (fun w' hw=>xh_ (q.num) tx _ _ HTX.out (I.out.r 0 rfl (HG0.out.trans hw)) om) ?_
 refine tk ?_
 refine ce1 Tryz.call150 HG0 (fun w' hw=>qj1 q (q.den) _ _ _ HZ1.out om (I.out.r 0 rfl (HG0.out.trans hw)) (I.out.r 1 rfl (HG0.out.trans hw))) ?_;clear HG0;intro vv25 HG0 _ ao1 nn1 cc1 RN25
 clear lx23;have lx23:=fun w' (h:Gr _ w')=>kc2_ I w' (HG0.out.trans h)
 refine ck Tryz.call177 (fun w' hw=>qQ3 _ (q.den) ty _ HTY.out (RN25.out.gr hw) om) ?_
 refine tk ?_
 refine qa0 (Y.out _ _ ?_)
 intro G vw2 hg hf
 simp only [puts,Act.put,lA,lB,lC,lD,lE,↓reduceIte,Nat.reduceEqDiff]
 have J:=lh_ ((I.out.gr (HG0.out.trans hg)).ar (RN25.out.gr hg))
 simp only [zq1_,zq2_,zq3_,zq4_,lF,lG] at J
 clear Y T I hg hf HG0 RN25 lx23
 go_wp2
 refine kF_ O (((((J.out).er 3).er 2).er 1).er 0) fun Wx3 I=>?_;clear O K
 clear J
 clear hlen1 hcat1 hlen2 hcat2
 refine wp_ret ?_
 exact bR ⟨rfl,I.out.1⟩ (by simp [results,Tryz.results174,go_sem])
theorem qS9 {a:Int} {k:Nat} (h:tw a.natAbs≤k):(itx a).size≤14*k+2:=by
 have h1:=qf4 a.natAbs
 have h2:=xx7 a.natAbs
 have h3:=qB4 a
 rw [h3]
 have:14*tw a.natAbs≤14*k:=Nat.mul_le_mul_left _ h
 split <;> omega
theorem qE0 {n k:Nat} (h:tw n≤k):(⟨(Lib.decDigits n).toArray⟩:ByteArray).size≤14*k+1:=by
 have h1:=qf4 n
 have h2:=xx7 n
 rw [qo4,Lib.decDigits_length]
 have:14*tw n≤14*k:=Nat.mul_le_mul_left _ h
 omega
theorem xd6 (q:Rat) (va1 va2:Value) (w:World) (hs:rz q≤1000000) (h1:Rn w va1 q.num.natAbs) (h2:Rn w va2 (q.den - 1)) :
  CB 174 #[.agg #[.bool (decide (q.num<0)),va1,va2]] w (.string (ftx q)):=by
 unfold ftx
 by_cases h:q.den=1
 ·rw [if_pos h]
  exact xy9 q _ va1 va2 w (lh_ rfl) hs (lh_ h) h1 h2
 rw [if_neg h]
 have e1:=qS9 (Nat.le_trans (qf5 q) hs)
 have e2:=qE0 (Nat.le_trans (qd1 q) hs)
 exact xy8 q _ _ _ _ va1 va2 w (lh_ rfl) hs (lh_ h) (lh_ rfl) (lh_ rfl) (lh_ rfl) om (by rw [qL_];have:(⟨#[47]⟩:ByteArray).size=1:=rfl;omega) om h1 h2
end
section
open Go.RowKit
attribute [local go_sem ↓] Go.wp_at_zero Go.wp_at_succ
attribute [local go_sem ↓] eq_nat eq_nat_zero eq_int
end
section
open Go.RowKit
attribute [local go_sem ↓] Go.wp_at_zero Go.wp_at_succ
end
end Go.Proofs.YtobojnodohjiaaaGreatDoor

set_option maxRecDepth 100000
set_option maxHeartbeats 16000000
set_option linter.unusedVariables false
set_option linter.unusedSimpArgs false
namespace Go.Proofs.YtobojnodohjiaaaGreatDoor
open Go.RowKit
attribute [local go_sem ↓] Go.wp_at_zero Go.wp_at_succ
attribute [local go_sem ↓] eq_nat eq_nat_zero eq_int
attribute [local go_sem] Instr.field asAgg
theorem xa5 (bbxn:Bool) (kxn kxd:Nat) (ao_xn:Option Addr) (c_xn:Nat) (ao_xd:Option Addr) (c_xd:Nat) (w:World)  :
  CB 112 #[.agg #[.bool bbxn,(.slice ao_xn kxn c_xn),(.slice ao_xd kxd c_xd)]] w ((.agg #[.bool false,.slice ao_xd kxd c_xd])):=by
 go_enter Tryz.func112,Tryz.ntmps112
 have I:=lh_ (hp0 w)
 refine kSl fun K O=>?_;go_wp2
 refine kF_ O (al2_ I) fun Wx0 J=>?_;clear O K
 clear I;have I:=J;clear J
 generalize w.heap.size+1=gx1 at *
 have lx0:=kc0_ I
 refine ks3_ fun K O T Y=>?_
 refine tk3_ ?_
 refine nlS Y I fun vw1 J=>?_
 clear Y T I lx0
 have lx1:=kc1_ J;have fx1:=kf1_ J
 have r0:=Gr.refl vw1
 go_wp2
 refine kO O ?_;clear O K
 clear r0 lx1 fx1
 refine fH (((J.out).put2 1 0 rfl).er 0) fun Wx1 I=>?_
 clear J
 refine wp_ret ?_
 try simp only [Exit.then,Exit.inBlock]
 have lx1:=kc0_ I
 have r0:=Gr.refl Wx1
 exact bR ⟨rfl,I.out.1⟩ (by simp [results,Tryz.results112,go_sem,lx1 _ r0])
theorem qN1 (b:Bool) (u v:Value) {ao:Option Addr} {k c:Nat} {ao':Option Addr} {k' c':Nat} (w:World) (hu:u=.slice ao k c:=by rfl) (hv:v=.slice ao' k' c':=by rfl) :
  CB 112 #[.agg #[.bool b,u,v]] w (.agg #[.bool false,v]):=by
 subst hu hv
 exact xa5 b k k' ao c ao' c' w
theorem qf9 (bbxn:Bool) (kxn:Nat) (fxn:Nat→Nat) (mxn:Nat) (ixn:Int) (kxd:Nat) (fxd:Nat→Nat) (mxd:Nat) (q:Rat) (ao_xn:Option Addr) (c_xn:Nat) (ao_xd:Option Addr) (c_xd:Nat) (w:World) (HWxn:Hid (Wa w (.slice ao_xn kxn c_xn) kxn fxn)) (HFxn:Hid (∀ i,i<kxn→fxn i<4294967296)) (HVxn:Hid (vl fxn kxn=mxn)) (HAxn:Hid ((if bbxn then -((mxn:Nat):Int) else ((mxn:Nat):Int))=ixn)) (HWxd:Hid (Wa w (.slice ao_xd kxd c_xd) kxd fxd)) (HFxd:Hid (∀ i,i<kxd→fxd i<4294967296)) (HVxd:Hid (vl fxd kxd=mxd)) (HQx:Hid (mkRat ixn (mxd+1)=q)) (hkn:kxn≤100) (hmn:wl mxn≤100) (hkd:kxd≤100) (hmd:wl mxd≤100) :
  CB 35 #[.agg #[.bool bbxn,(.slice ao_xn kxn c_xn),(.slice ao_xd kxd c_xd)]] w (.agg #[.int .u64 (lo q.num.natAbs),.string (bg q.num.natAbs),.bool (q.num<0),.int .u64 (lo (q.den - 1)),.string (bg (q.den - 1))]):=by
 have hin_:wl (Int.natAbs ixn)≤100:=by rw [qo9 HAxn.out];exact hmn
 have hmi:wl (Int.natAbs (mxd:Int))≤100:=by rw [Int.natAbs_natCast];exact hmd
 have hmt:tw (Int.natAbs (mxd:Int))≤300:=by rw [Int.natAbs_natCast];have:=qD2 mxd;omega
 go_enter Tryz.func35,Tryz.ntmps35
 have I:=lh_ (hp0 w)
 refine kSl fun K O=>?_;go_wp2
 refine kF_ O (al2_ I) fun Wx0 J=>?_;clear O K
 clear I;have I:=J;clear J
 generalize w.heap.size+1=gx1 at *
 have HB:=HPb I
 have su_0_1:wl 1≤1:=qa2.2 (by decide +kernel)
 obtain ⟨u1,HZ1⟩:=ex_ ((Int.natAbs ((mxd:Int)))+(1))
 have su1:wl u1≤101:=by rw [← HZ1.out];have:=qt6 (Int.natAbs ((mxd:Int))) (1);omega
 have HZ2:Hid (mkRat ixn u1=q):=lh_ (by rw [← HQx.out];simp only [← HZ1.out];rfl)
 have su2:sz q≤101:=by have e:=HZ2.out;first|omega|(rw [← e];exact qe1 (k:=101) om om (by decide))
 have lx0:=kc0_ I
 refine kS fun K O=>?_
 refine qa1 14 [13] [12] (fun _=>3) (fun _=>.cells #[.int .u64 0,.string ⟨#[]⟩,.bool false,.int .u64 0,.string ⟨#[]⟩] 36) [(true,0),(true,1),(true,3),(true,2),(true,4),(true,5),(true,6),(true,7),(true,8),(true,9),(true,10),(true,11),(true,12)] (by kernel_rfl) (by kernel_rfl) zb0_ zb3_ (fun _ _ _ _ _ h=>h) (fun T Y=>?_)
 refine tk3_ ?_
 refine ck Tryz.call32 (fun w' hw=>zlof bbxn kxn fxn mxn ixn ao_xn c_xn w' (lh_ (HWxn.out.gr (Gr.trans HB.out hw))) HFxn HVxn HAxn om om) ?_
 refine ck Tryz.call112 (fun w' hw=>qN1 bbxn (.slice ao_xn kxn c_xn) (.slice ao_xd kxd c_xd) _) ?_
 refine ck Tryz.call32 (fun w' hw=>zlof false kxd fxd mxd (mxd:Int) ao_xd c_xd w' (lh_ (HWxd.out.gr (Gr.trans HB.out hw))) HFxd HVxd (lh_ rfl) om om) ?_
 refine ck Tryz.call100 (fun w' hw=>qk7 ((mxd:Int)) _) ?_
 refine ck Tryz.call24 (fun w' hw=>nzof 1 _ (by decide)) ?_
 refine ck Tryz.call109 (fun w' hw=>xx9 (Int.natAbs ((mxd:Int))) (1) u1 _ HZ1.out om om) ?_
 refine ck Tryz.call102 (fun w' hw=>qi_ ixn u1 q _ (lh_ HZ2.out) (by simp only [← HZ1.out];omega) om om) ?_
 refine tk3_ ?_
 refine qa0 (Y.out _ _ ?_)
 intro G vw1 hg hf
 simp only [puts,Act.put,lA,lB,lC,lD,lE,↓reduceIte,Nat.reduceEqDiff]
 have J:=lh_ (I.out.fr hg hf (zs:=[(#[.int .u64 0,.string ⟨#[]⟩,.bool false,.int .u64 0,.string ⟨#[]⟩],36)]) rfl (by decide) (by decide))
 simp only [zq1_,zq2_,zq3_,zq4_,lF,lG] at J
 clear Y T I hg hf lx0 HB
 generalize G 13=gx3 at *
 have lx3:=kc2_ J;have fx3:=kf2_ J
 have r0:=Gr.refl vw1
 go_wp2
 refine kO O ?_;clear O K
 clear r0 lx3 fx3
 refine fH (((((J.out).put2 2 0 rfl).put2 2 2 rfl).put 2 4 _ rfl).er 0) fun Wx1 I=>?_
 clear J
 have lx3:=kc1_ I
 refine ks1_ fun K O T Y=>?_
 refine tk ?_
 refine nlS Y I fun vw2 J=>?_
 clear Y T I lx3
 have lx1:=kc0_ J;have fx1:=kf0_ J
 have r0:=Gr.refl vw2
 go_wp2
 refine kO O ?_;clear O K
 clear r0 lx1 fx1
 refine fH (((((J.out).put2 0 0 rfl).put2 0 2 rfl).put 0 4 _ rfl).er 1) fun Wx2 I=>?_
 clear J
 refine wp_ret ?_
 try simp only [Exit.then,Exit.inBlock]
 have lx1:=kc0_ I
 have r0:=Gr.refl Wx2
 exact bR ⟨rfl,I.out.1⟩ (by simp [results,Tryz.results35,go_sem,lx1 _ r0])
theorem qm8 (bbxn:Bool) (kxn:Nat) (fxn:Nat→Nat) (mxn:Nat) (ixn:Int) (kxd:Nat) (fxd:Nat→Nat) (mxd:Nat) (q:Rat) (ao_xn:Option Addr) (c_xn:Nat) (ao_xd:Option Addr) (c_xd:Nat) (w:World) (HWxn:Hid (Wa w (.slice ao_xn kxn c_xn) kxn fxn)) (HFxn:Hid (∀ i,i<kxn→fxn i<4294967296)) (HVxn:Hid (vl fxn kxn=mxn)) (HAxn:Hid ((if bbxn then -((mxn:Nat):Int) else ((mxn:Nat):Int))=ixn)) (HWxd:Hid (Wa w (.slice ao_xd kxd c_xd) kxd fxd)) (HFxd:Hid (∀ i,i<kxd→fxd i<4294967296)) (HVxd:Hid (vl fxd kxd=mxd)) (HQx:Hid (mkRat ixn (mxd+1)=q)) (hkn:kxn≤100) (hmn:wl mxn≤100) (hkd:kxd≤100) (hmd:wl mxd≤100) :
  Calls Tryz.prog 128 #[.agg #[.bool bbxn,.slice ao_xn kxn c_xn,.slice ao_xd kxd c_xd]] w fun e w'=>(∃ r1 r2:Value,e=.returned (.agg #[.bool (decide (q.num<0)),r1,r2])∧Rn w' r1 q.num.natAbs∧Rn w' r2 (q.den - 1))∧Gr w w':=by
 have hin_:tw (Int.natAbs ixn)≤300:=by rw [qo9 HAxn.out];have:=qD2 mxn;omega
 have hmi:wl (Int.natAbs (mxd:Int))≤100:=by rw [Int.natAbs_natCast];exact hmd
 have hmt:tw (Int.natAbs (mxd:Int))≤300:=by rw [Int.natAbs_natCast];have:=qD2 mxd;omega
 go_enter Tryz.func128,Tryz.ntmps128
 have I:=lh_ (hp0 w)
 refine kSl fun K O=>?_;go_wp2
 refine kF_ O (al2_ I) fun Wx0 J=>?_;clear O K
 clear I;have I:=J;clear J
 generalize w.heap.size+1=gx1 at *
 have HB:=HPb I
 have HZ1:Hid ((1:Int)=1):=lh_ (by decide +kernel)
 have su1:tw (Int.natAbs (1))≤1:=qc0.2 (by decide +kernel)
 obtain ⟨u2,HZ2⟩:=ex_ (((mxd:Int))+(1))
 have su2:tw u2.natAbs≤301:=by rw [← HZ2.out];have:=qo6 ((mxd:Int)) (1);omega
 have HZ3:Hid (mkRat ixn u2.natAbs=q):=lh_ (by rw [← HQx.out];simp only [← HZ2.out];rfl)
 have su3:rz q≤301:=by have e:=HZ3.out;first|omega|(rw [← e];exact qm9 (k:=301) om om (by decide))
 have lx0:=kc0_ I
 refine kS fun K O=>?_
 have HG0:Hid (Gr Wx0 Wx0):=lh_ (Gr.refl _)
 refine pd8_ fun T Y=>?_
 refine tk3_ ?_
 refine ce1 Tryz.call209 HG0 (fun w' hw=>(xN9 bbxn kxn fxn mxn ixn ao_xn c_xn w' (lh_ (HWxn.out.gr (Gr.trans HB.out hw))) HFxn HVxn HAxn om om)) ?_;clear HG0;intro vv3 HG0 HGS ao1 nn1 cc1 RN3
 replace HB:=lh_ (HB.out.trans (HGS.out.mono HB.out.size))
 clear HGS
 clear lx0;have lx0:=fun w' (h:Gr _ w')=>kc0_ I w' (HG0.out.trans h)
 refine ck Tryz.call112 (fun w' hw=>qN1 bbxn (.slice ao_xn kxn c_xn) (.slice ao_xd kxd c_xd) _) ?_
 refine ce1 Tryz.call209 HG0 (fun w' hw=>(xN9 false kxd fxd mxd (mxd:Int) ao_xd c_xd w' (lh_ (HWxd.out.gr (Gr.trans HB.out hw))) HFxd HVxd (lh_ rfl) om om)) ?_;clear HG0;intro vv4 HG0 HGS ao2 nn2 cc2 RN4
 replace RN3:=lh_ (RN3.out.gr HGS.out)
 replace HB:=lh_ (HB.out.trans (HGS.out.mono HB.out.size))
 clear HGS
 clear lx0;have lx0:=fun w' (h:Gr _ w')=>kc0_ I w' (HG0.out.trans h)
 refine ce1 Tryz.call211 HG0 (fun w' hw=>qi4 (1) (1) _ HZ1.out (by decide) (by decide)) ?_;clear HG0;intro vv5 HG0 HGS ao3 nn3 cc3 RN5
 replace RN3:=lh_ (RN3.out.gr HGS.out)
 replace RN4:=lh_ (RN4.out.gr HGS.out)
 replace HB:=lh_ (HB.out.trans (HGS.out.mono HB.out.size))
 clear HGS
 clear lx0;have lx0:=fun w' (h:Gr _ w')=>kc0_ I w' (HG0.out.trans h)
 refine ce1 Tryz.call210 HG0 (fun w' hw=>qn1 ((mxd:Int)) (1) u2 _ _ _ HZ2.out om om (RN4.out.gr hw) (RN5.out.gr hw)) ?_;clear HG0;intro vv6 HG0 HGS ao4 nn4 cc4 RN6
 replace RN3:=lh_ (RN3.out.gr HGS.out)
 replace RN4:=lh_ (RN4.out.gr HGS.out)
 replace RN5:=lh_ (RN5.out.gr HGS.out)
 replace HB:=lh_ (HB.out.trans (HGS.out.mono HB.out.size))
 clear HGS
 clear lx0;have lx0:=fun w' (h:Gr _ w')=>kc0_ I w' (HG0.out.trans h)
 refine tk ?_
 refine ce2 Tryz.call195 HG0 (fun w' hw=>qq3 ixn u2.natAbs q _ _ _ HZ3.out (by first|exact ok|(simp only [← HZ2.out] <;> first|exact ok)) om om (RN3.out.gr hw) (RN6.out.gr hw)) ?_;clear HG0;intro vv7 HG0 HGS ao5 nn5 cc5 ao6 nn6 cc6 RN7 RN8
 replace RN3:=lh_ (RN3.out.gr HGS.out)
 replace RN4:=lh_ (RN4.out.gr HGS.out)
 replace RN5:=lh_ (RN5.out.gr HGS.out)
 replace RN6:=lh_ (RN6.out.gr HGS.out)
 replace HB:=lh_ (HB.out.trans (HGS.out.mono HB.out.size))
 clear HGS
 clear lx0;have lx0:=fun w' (h:Gr _ w')=>kc0_ I w' (HG0.out.trans h)
 refine qa0 (Y.out _ _ ?_)
 intro G vw1 hg hf
 simp only [puts,Act.put,lA,lB,lC,lD,lE,↓reduceIte,Nat.reduceEqDiff]
 have J:=lh_ (((((((I.out.gr (HG0.out.trans hg)).ar (RN3.out.gr hg)).ar (RN4.out.gr hg)).ar (RN5.out.gr hg)).ar (RN6.out.gr hg)).ar (RN7.out.gr hg)).ar (RN8.out.gr hg))
 simp only [zq1_,zq2_,zq3_,zq4_,lF,lG] at J
 clear Y T I hg hf HG0 RN3 RN4 RN5 RN6 RN7 RN8 lx0 HB
 have lx1:=kc1_ J;have fx1:=kf1_ J
 have r0:=Gr.refl vw1
 go_wp2
 refine kO O ?_;clear O K
 clear r0 lx1 fx1
 refine fH ((((((((J.out).put2 1 0 rfl).put 1 2 _ rfl).er 5).er 4).er 3).er 2).er 0) fun Wx1 I=>?_
 clear J
 refine wp_ret ?_
 try simp only [Exit.then,Exit.inBlock]
 have lx1:=kc0_ I
 have r0:=Gr.refl Wx1
 exact bR ⟨⟨(.slice ao5 nn5 cc5),(.slice ao6 nn6 cc6),rfl,(I.out.rn 1 rfl),(I.out.rn 2 rfl)⟩,I.out.1⟩ (by simp [results,Tryz.results128,go_sem,lx1 _ r0])
theorem qp7 (q:Rat) (va1 va2:Value) (w:World) (hs:sz q≤100000) (hr:rz q≤1000000) (bx21:Rn w va1 q.num.natAbs) (bx22:Rn w va2 (q.den - 1)) (HT:Hid (Tab w)) :
  CB 66 #[(Value.agg #[.int .u64 (lo q.num.natAbs),.string (bg q.num.natAbs),.bool (q.num<0),.int .u64 (lo (q.den - 1)),.string (bg (q.den - 1))]),.agg #[.bool (decide (q.num<0)),va1,va2]] w ((.bool true)):=by
 obtain ⟨ao_va1,n_va1,c_va1,rfl⟩:=Rn.sl bx21
 obtain ⟨ao_va2,n_va2,c_va2,rfl⟩:=Rn.sl bx22
 go_enter Tryz.func66,Tryz.ntmps66
 have I:=lh_ (hp0 w)
 replace I:=lh_ ((I.out.ar bx21).ar bx22)
 simp only [lF,lG] at I
 clear bx21 bx22
 refine kSl fun K O=>?_;go_wp2
 refine kF_ O (al2_ I) fun Wx0 J=>?_;clear O K
 clear I;have I:=J;clear J
 generalize w.heap.size+1=gx24 at *
 have HB:=HPb I
 have hse:((ftx q).toList == (ftx q).toList)=true:=by simp
 have lx23:=kc2_ I
 have lx24:=kc3_ I
 refine kS fun K O=>?_
 refine pd9_ fun T Y=>?_
 refine tk2_ ?_
 refine ck Tryz.call153 (fun w' hw=>qw3 q _ om (lh_ (HT.out.gr (Gr.trans HB.out hw)))) ?_
 refine ck Tryz.call174 (fun w' hw=>xd6 q _ _ _ om (I.out.r 0 rfl hw) (I.out.r 1 rfl hw)) ?_
 refine tk ?_
 refine nlD Y I fun vw1 J=>?_
 clear Y T I lx23 lx24 HB
 go_wp2
 refine kF_ O (((((J.out).er 3).er 2).er 1).er 0) fun Wx1 I=>?_;clear O K
 clear J
 clear hse
 refine wp_ret ?_
 exact bR ⟨rfl,I.out.1⟩ (by simp [results,Tryz.results66,go_sem])
end Go.Proofs.YtobojnodohjiaaaGreatDoor

set_option linter.unusedVariables false
set_option linter.unusedSimpArgs false
namespace Go.Proofs.YtobojnodohjiaaaGreatDoor
open Go.RowKit
attribute [local go_sem ↓] Go.wp_at_zero Go.wp_at_succ
theorem qe6 {i:Int} {m k:Nat} (h1:wl i.natAbs≤k) (h2:wl m≤k):sz (mkRat i (m+1))≤k+1:=by
 have h3:=qt6 m 1
 have h4:wl 1≤1:=qc7 (by decide)
 have h5:wl (m+1)≤k+1:=by
  rcases Nat.eq_zero_or_pos m with h|h
  ·subst h;exact Nat.le_trans (qc7 (by decide)) om
  have:=qq9 h
  omega
 exact qe1 om h5 om
theorem qf_ {i:Int} {m k K:Nat} (h1:wl i.natAbs≤k) (h2:wl m≤k) (h:3*k+3≤K):rz (mkRat i (m+1))≤K:=by
 have h3:=qe6 h1 h2
 have h4:=qD2 i.natAbs
 have h5:=qD2 (m+1)
 have h6:wl (m+1)≤k+1:=by
  have:=qt6 m 1
  have h4:wl 1≤1:=qc7 (by decide)
  rcases Nat.eq_zero_or_pos m with h|h
  ·subst h;exact Nat.le_trans (qc7 (by decide)) om
  have:=qq9 h
  omega
 exact qm9 om om om
theorem xt1 {b:Rat} (h:b≠0):¬ sgQ b=0:=by
 unfold sgQ;rw [if_neg h];split <;> decide
end Go.Proofs.YtobojnodohjiaaaGreatDoor

set_option linter.unusedVariables false
set_option linter.unusedSimpArgs false
namespace Go.Proofs.YtobojnodohjiaaaGreatDoor
open Go.RowKit
attribute [local go_sem ↓] Go.wp_at_zero Go.wp_at_succ
theorem qk3 (a:Rat):(a<0∧sgQ a = -1)∨(a=0∧sgQ a=0)∨(0<a∧sgQ a=1):=by
 by_cases h0:a=0
 ·subst h0;exact .inr (.inl ⟨rfl,rfl⟩)
 by_cases h:a<0
 ·exact .inl ⟨h,ql2 h⟩
 have:0<a:=Rat.lt_of_le_of_ne (Rat.not_lt.1 h) (fun e=>h0 e.symm)
 exact .inr (.inr ⟨this,qs1 this⟩)
theorem qu8 {a b:Rat} (h:a<b):a - b<0:=by grind
theorem qP3 {a b:Rat} (h:b<a):0<a - b:=by grind
theorem xs2 (f:Int):mkRat f 1=(f:Rat):=(Rat.mk_eq_mkRat f 1 (by decide) (by simp)).symm
end Go.Proofs.YtobojnodohjiaaaGreatDoor
