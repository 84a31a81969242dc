
/- plain facts of the laws of gussetlaw03. -/
import Derived.Test.YtobojnodohjiaaaGreatDoorHp
import Derived.Test.YtobojnodohjiaaaGreatDoorIntE
import Derived.Test.YtobojnodohjiaaaGreatDoorPJ
import Derived.Test.YtobojnodohjiaaaGreatDoorPT
import Derived.Test.YtobojnodohjiaaaGreatDoorPI
import Derived.Test.YtobojnodohjiaaaGreatDoorPE
import Derived.Test.YtobojnodohjiaaaGreatDoorPP
import Derived.Lib.Strings
import Derived.Test.YtobojnodohjiaaaGreatDoorPL
import Derived.Test.YtobojnodohjiaaaGreatDoorPV
set_option maxRecDepth 100000
set_option maxHeartbeats 16000000
set_option linter.unusedVariables false
set_option linter.unusedSimpArgs false
namespace Go.Proofs.YtobojnodohjiaaaGreatDoor
open Go.RowKit
attribute [local go_sem ↓] Go.wp_at_zero Go.wp_at_succ
attribute [local go_sem ↓] eq_nat eq_nat_zero eq_int
theorem zlof (bx:Bool) (kx:Nat) (fx:Nat→Nat) (mx:Nat) (a:Int) (ao_x:Option Addr) (c_x:Nat) (w:World) (HWx:Hid (Wa w (.slice ao_x kx c_x) kx fx)) (HFx:Hid (∀ i,i<kx→fx i<4294967296)) (HVx:Hid (vl fx kx=mx)) (HAx:Hid ((if bx then -((mx:Nat):Int) else ((mx:Nat):Int))=a)) (hkx:kx≤100) (hmx:wl mx≤100) :
  CB 32 #[.agg #[.bool bx,(.slice ao_x kx c_x)]] w (.agg #[.int .u64 (lo a.natAbs),.string (bg a.natAbs),.bool (a<0)]):=by
 go_enter Tryz.func32,Tryz.ntmps32
 have I:=lh_ (hp0 w)
 refine kSl fun K O=>?_;go_wp2
 refine kF_ O (al2_ I) fun Wx0 J=>?_;clear O K
 clear I;have I:=J;clear J
 generalize w.heap.size+1=gx1 at *
 have HB:=HPb I
 have HZ1:Hid ((if bx then -((mx:Nat):Int) else ((mx:Nat):Int))=a):=lh_ (HAx.out)
 have su1:wl a.natAbs≤100:=by have e:=HZ1.out;first|omega|(rw [← e];split <;> simp <;> omega)
 have lx0:=kc0_ I
 refine kS fun K O=>?_
 refine pd7_ fun T Y=>?_
 iterate 4 refine tk ?_
 refine ck Tryz.call31 (fun w' hw=>xE8 _ kx fx mx w _ HVx.out om HWx.out (Gr.trans HB.out hw) HFx.out) ?_
 refine ck Tryz.call37 (fun w' hw=>qa7 bx mx a _ HZ1.out) ?_
 refine nlD Y I fun vw1 J=>?_
 clear Y T I lx0 HB
 have lx1:=kc1_ J;have fx1:=kf1_ J
 have r0:=Gr.refl vw1
 go_wp2
 refine kO O ?_;clear O K
 clear r0 lx1 fx1
 refine fH ((((J.out).put2 1 0 rfl).put 1 2 _ rfl).er 0) fun Wx1 I=>?_
 clear J
 refine wp_ret ?_
 try simp only [Exit.then,Exit.inBlock]
 have lx1:=kc0_ I
 have r0:=Gr.refl Wx1
 exact bR ⟨rfl,I.out.1⟩ (by simp [results,Tryz.results32,go_sem,lx1 _ r0])
theorem xB4 (bx:Bool) (kx:Nat) (fx:Nat→Nat) (mx:Nat) (a:Int) (ao_x:Option Addr) (c_x:Nat) (w:World) (HWx:Hid (Wa w (.slice ao_x kx c_x) kx fx)) (HFx:Hid (∀ i,i<kx→fx i<4294967296)) (HVx:Hid (vl fx kx=mx)) (HAx:Hid ((if bx then -((mx:Nat):Int) else ((mx:Nat):Int))=a)) (hkx:kx≤100) (hmx:wl mx≤100) :
  Calls Tryz.prog 209 #[.agg #[.bool bx,.slice ao_x kx c_x]] w fun e w'=>(∃ r1:Value,e=.returned (.agg #[.bool (decide (a<0)),r1])∧Rn w' r1 (Int.natAbs a))∧Gr w w':=by
 go_enter Tryz.func209,Tryz.ntmps209
 have I:=lh_ (hp0 w)
 refine kSl fun K O=>?_;go_wp2
 refine kF_ O (al2_ I) fun Wx0 J=>?_;clear O K
 clear I;have I:=J;clear J
 generalize w.heap.size+1=gx1 at *
 have HB:=HPb I
 have su1:tw mx≤300:=by rw [← HVx.out];have:=qF5 (vl fx kx);have:=wl_le.2 (vl_lt HFx.out);omega
 have HZ2:Hid ((if bx then -((mx:Nat):Int) else ((mx:Nat):Int))=a):=lh_ (HAx.out)
 have su2:tw a.natAbs≤300:=by have e:=HZ2.out;first|omega|(rw [← e];split <;> simp <;> omega)
 have lx0:=kc0_ I
 refine kS fun K O=>?_
 have HG0:Hid (Gr Wx0 Wx0):=lh_ (Gr.refl _)
 refine xC4 fun T Y=>?_
 iterate 4 refine tk ?_
 refine ce1 Tryz.call251 HG0 (fun w' hw=>xE_ _ kx fx mx w _ HVx.out om HWx.out (Gr.trans HB.out hw) HFx.out) ?_;clear HG0;intro vv3 HG0 HGS ao1 nn1 cc1 RN3
 replace HB:=lh_ (HB.out.trans (HGS.out.mono HB.out.size))
 clear HGS
 clear lx0;have lx0:=fun w' (h:Gr _ w')=>kc0_ I w' (HG0.out.trans h)
 refine ce1 Tryz.call196 HG0 (fun w' hw=>qa8 bx mx a _ _ HZ2.out (RN3.out.gr hw)) ?_;clear HG0;intro vv4 HG0 HGS ao2 nn2 cc2 RN4
 replace RN3:=lh_ (RN3.out.gr HGS.out)
 replace HB:=lh_ (HB.out.trans (HGS.out.mono HB.out.size))
 clear HGS
 clear lx0;have lx0:=fun w' (h:Gr _ w')=>kc0_ I w' (HG0.out.trans h)
 refine wpPlan_nil (Y.out _ _ ?_)
 intro G vw1 hg hf
 simp only [puts,Act.put,lA,lB,lC,lD,lE,↓reduceIte,Nat.reduceEqDiff]
 have J:=lh_ (((I.out.gr (HG0.out.trans hg)).ar (RN3.out.gr hg)).ar (RN4.out.gr hg))
 simp only [zq1_,zq2_,zq3_,zq4_,lF,lG] at J
 clear Y T I hg hf HG0 RN3 RN4 lx0 HB
 have lx1:=kc1_ J;have fx1:=kf1_ J
 have r0:=Gr.refl vw1
 go_wp2
 refine kO O ?_;clear O K
 clear r0 lx1 fx1
 refine fH ((((J.out).put2 1 0 rfl).er 2).er 0) fun Wx1 I=>?_
 clear J
 refine wp_ret ?_
 try simp only [Exit.then,Exit.inBlock]
 have lx1:=kc0_ I
 have r0:=Gr.refl Wx1
 exact bR ⟨⟨(.slice ao2 nn2 cc2),rfl,(by rw [show Int.natAbs a=Int.natAbs a from rfl];exact (I.out.rn 1 rfl))⟩,I.out.1⟩ (by simp [results,Tryz.results209,go_sem,lx1 _ r0])
end Go.Proofs.YtobojnodohjiaaaGreatDoor

set_option linter.unusedVariables false
set_option linter.unusedSimpArgs false
namespace Go.Proofs.YtobojnodohjiaaaGreatDoor
open Go.RowKit
attribute [local go_sem ↓] Go.wp_at_zero Go.wp_at_succ
theorem zsize {b:Bool} {n:Nat} {a:Int} (h:(if b then -((n:Nat):Int) else ((n:Nat):Int))=a):a.natAbs=n:=by
 rw [← h];split <;> simp
end Go.Proofs.YtobojnodohjiaaaGreatDoor

set_option maxRecDepth 100000
set_option maxHeartbeats 16000000
set_option linter.unusedVariables false
set_option linter.unusedSimpArgs false
namespace Go.Proofs.YtobojnodohjiaaaGreatDoor
section
open Go.RowKit
def itx (a:Int):ByteArray:=if a<0 then (⟨#[45]⟩:ByteArray) ++ ⟨(Lib.decDigits a.natAbs).toArray⟩ else ⟨(Lib.decDigits a.natAbs).toArray⟩
theorem qj5 (a:Int) (w:World) (ha:wl a.natAbs≤900000) (HT:Hid (Tab w)) :
  CB 141 #[(Value.agg #[.int .u64 (lo a.natAbs),.string (bg a.natAbs),.bool (a<0)])] w (.string (itx a)):=by
 by_cases hn:a<0
 ·have HS1:Hid (decide (a<0)=true):=decide_eq_true hn
  have HSG:Hid (itx a=(⟨#[45]⟩:ByteArray) ++ ⟨(Lib.decDigits a.natAbs).toArray⟩):=if_pos hn
  clear hn
  rw [HSG.out,HS1.out]
  obtain ⟨W0,HW⟩:=ex_ ((w.alloc (.cells #[.int .u64 (lo (a.natAbs)),.string (bg (a.natAbs)),.bool true] 34)))
  have HS:=lh_ (show w.heap.size+1=W0.heap.size by rw [← HW.out];simp)
  have z0:w.heap.size<W0.heap.size:=by rw [← HS.out];omega
  have c0_0:W0.cell? ⟨w.heap.size,0,none⟩=some (.int .u64 (lo (a.natAbs))):=by rw [← HW.out];simp [go_sem]
  have c0_1:W0.cell? ⟨w.heap.size,1,none⟩=some (.string (bg (a.natAbs))):=by rw [← HW.out];simp [go_sem]
  have c0_2:W0.cell? ⟨w.heap.size,2,none⟩=some (.bool true):=by rw [← HW.out];simp [go_sem]
  have f_0:W0.frozen? ⟨w.heap.size,0,none⟩=false:=by rw [← HW.out];simp [go_sem]
  have f_1:W0.frozen? ⟨w.heap.size,1,none⟩=false:=by rw [← HW.out];simp [go_sem]
  have f_2:W0.frozen? ⟨w.heap.size,2,none⟩=false:=by rw [← HW.out];simp [go_sem]
  have hbw:Below w.heap.size w W0:=by rw [← HW.out];exact (Below.refl _ _).alloc (Nat.le_refl _) _
  have HR:Hid (∀ w1:World,Below W0.heap.size W0 w1→w1.cell? ⟨w.heap.size,0,none⟩=some (.int .u64 (lo (a.natAbs)))∧w1.cell? ⟨w.heap.size,1,none⟩=some (.string (bg (a.natAbs)))∧w1.cell? ⟨w.heap.size,2,none⟩=some (.bool true)∧w1.frozen? ⟨w.heap.size,0,none⟩=false∧w1.frozen? ⟨w.heap.size,1,none⟩=false∧w1.frozen? ⟨w.heap.size,2,none⟩=false∧Below w.heap.size w w1):=fun w1 hb=>⟨(held W0 w1 hb _ _ z0).trans c0_0,(held W0 w1 hb _ _ z0).trans c0_1,(held W0 w1 hb _ _ z0).trans c0_2,(qb_ W0 w1 hb _ _ z0).trans f_0,(qb_ W0 w1 hb _ _ z0).trans f_1,(qb_ W0 w1 hb _ _ z0).trans f_2,grow hbw hb⟩
  have HBW:=lh_ hbw
  clear hbw
  have hlen:¬ (9223372036854775807<1+(Lib.decDigits a.natAbs).length):=by rw [Lib.decDigits_length];have:=qe6 a.natAbs;have:=nb_wl a.natAbs;omega
  go_enter Tryz.func141,Tryz.ntmps141
  go_wp2_with fail
  rw [HW.out]
  refine (qy6 a.natAbs _ om (lh_ (HT.out.gr HBW.out))).mono ?_
  rintro e w1 ⟨rfl,hb1⟩
  clear c0_0 c0_1 c0_2 f_0 f_1 f_2 HBW;obtain ⟨c0_0,c0_1,c0_2,f_0,f_1,f_2,hbw⟩:=HR.out w1 hb1;have HBW:=lh_ hbw;clear hbw
  go_wp2_with fail
  go_ret
  exact ⟨rfl,HBW.out⟩
 have HS1:Hid (decide (a<0)=false):=decide_eq_false hn
 have HSG:Hid (itx a=⟨(Lib.decDigits a.natAbs).toArray⟩):=if_neg hn
 clear hn
 rw [HSG.out,HS1.out]
 obtain ⟨W0,HW⟩:=ex_ ((w.alloc (.cells #[.int .u64 (lo (a.natAbs)),.string (bg (a.natAbs)),.bool false] 34)))
 have HS:=lh_ (show w.heap.size+1=W0.heap.size by rw [← HW.out];simp)
 have z0:w.heap.size<W0.heap.size:=by rw [← HS.out];omega
 have c0_0:W0.cell? ⟨w.heap.size,0,none⟩=some (.int .u64 (lo (a.natAbs))):=by rw [← HW.out];simp [go_sem]
 have c0_1:W0.cell? ⟨w.heap.size,1,none⟩=some (.string (bg (a.natAbs))):=by rw [← HW.out];simp [go_sem]
 have c0_2:W0.cell? ⟨w.heap.size,2,none⟩=some (.bool false):=by rw [← HW.out];simp [go_sem]
 have f_0:W0.frozen? ⟨w.heap.size,0,none⟩=false:=by rw [← HW.out];simp [go_sem]
 have f_1:W0.frozen? ⟨w.heap.size,1,none⟩=false:=by rw [← HW.out];simp [go_sem]
 have f_2:W0.frozen? ⟨w.heap.size,2,none⟩=false:=by rw [← HW.out];simp [go_sem]
 have hbw:Below w.heap.size w W0:=by rw [← HW.out];exact (Below.refl _ _).alloc (Nat.le_refl _) _
 have HR:Hid (∀ w1:World,Below W0.heap.size W0 w1→w1.cell? ⟨w.heap.size,0,none⟩=some (.int .u64 (lo (a.natAbs)))∧w1.cell? ⟨w.heap.size,1,none⟩=some (.string (bg (a.natAbs)))∧w1.cell? ⟨w.heap.size,2,none⟩=some (.bool false)∧w1.frozen? ⟨w.heap.size,0,none⟩=false∧w1.frozen? ⟨w.heap.size,1,none⟩=false∧w1.frozen? ⟨w.heap.size,2,none⟩=false∧Below w.heap.size w w1):=fun w1 hb=>⟨(held W0 w1 hb _ _ z0).trans c0_0,(held W0 w1 hb _ _ z0).trans c0_1,(held W0 w1 hb _ _ z0).trans c0_2,(qb_ W0 w1 hb _ _ z0).trans f_0,(qb_ W0 w1 hb _ _ z0).trans f_1,(qb_ W0 w1 hb _ _ z0).trans f_2,grow hbw hb⟩
 have HBW:=lh_ hbw
 clear hbw
 go_enter Tryz.func141,Tryz.ntmps141
 go_wp2_with fail
 rw [HW.out]
 refine (qy6 a.natAbs _ om (lh_ (HT.out.gr HBW.out))).mono ?_
 rintro e w1 ⟨rfl,hb1⟩
 clear c0_0 c0_1 c0_2 f_0 f_1 f_2 HBW;obtain ⟨c0_0,c0_1,c0_2,f_0,f_1,f_2,hbw⟩:=HR.out w1 hb1;have HBW:=lh_ hbw;clear hbw
 go_wp2_with fail
 go_ret
 exact ⟨rfl,HBW.out⟩
theorem qi4 (a:Int) (v:Value) (w:World) (hv:Rn w v a.natAbs) (hb:tw a.natAbs≤10000000) :
  CB 143 #[.agg #[.bool (decide (a<0)),v]] w (.string (itx a)):=by
 have HR:=lh_ hv
 clear hv
 have HB0:Hid (Below w.heap.size w (w.alloc (.cells #[.bool (decide (a<0)),v] 45))):=lh_ ((Below.refl _ _).alloc (Nat.le_refl _) _)
 by_cases hn:a<0
 ·have HS1:Hid (decide (a<0)=true):=decide_eq_true hn
  have HSG:Hid (itx a=(⟨#[45]⟩:ByteArray) ++ ⟨(Lib.decDigits a.natAbs).toArray⟩):=if_pos hn
  clear hn
  rw [HSG.out]
  rw [HS1.out] at HB0 ⊢
  have hlen:¬ (9223372036854775807<1+(Lib.decDigits a.natAbs).length):=by rw [Lib.decDigits_length];have:=qe6 a.natAbs;have:=xf7 a.natAbs;omega
  go_enter Tryz.func143,Tryz.ntmps143
  go_wp2_with fail
  refine (qu0 v a.natAbs _ (HR.out.gr HB0.out) hb).mono ?_
  rintro e w2 ⟨rfl,hb2⟩
  have HB2:Hid (Gr w w2):=lh_ (Gr.trans HB0.out hb2)
  clear hb2
  go_wp2_with fail
  go_ret
  exact ⟨rfl,HB2.out⟩
 have HS1:Hid (decide (a<0)=false):=decide_eq_false hn
 have HSG:Hid (itx a=⟨(Lib.decDigits a.natAbs).toArray⟩):=if_neg hn
 clear hn
 rw [HSG.out]
 rw [HS1.out] at HB0 ⊢
 go_enter Tryz.func143,Tryz.ntmps143
 go_wp2_with fail
 refine (qu0 v a.natAbs _ (HR.out.gr HB0.out) hb).mono ?_
 rintro e w2 ⟨rfl,hb2⟩
 have HB2:Hid (Gr w w2):=lh_ (Gr.trans HB0.out hb2)
 clear hb2
 go_wp2_with fail
 go_ret
 exact ⟨rfl,HB2.out⟩
end
section
open Go.RowKit
attribute [local go_sem ↓] Go.wp_at_zero Go.wp_at_succ
theorem qw1 (a:Int) (s:ByteArray) (w:World) (hs:itx a=s) (ha:wl a.natAbs≤900000) (HT:Hid (Tab w)) :
  CB 141 #[(Value.agg #[.int .u64 (lo a.natAbs),.string (bg a.natAbs),.bool (a<0)])] w (.string s):=hs ▸ qj5 a w ha HT
theorem xb1 (a:Int) (s:ByteArray) (v:Value) (w:World) (hs:itx a=s) (hv:Rn w v a.natAbs) (hb:tw a.natAbs≤10000000) :
  CB 143 #[.agg #[.bool (decide (a<0)),v]] w (.string s):=hs ▸ qi4 a v w hv hb
end
end Go.Proofs.YtobojnodohjiaaaGreatDoor

set_option linter.unusedVariables false
set_option linter.unusedSimpArgs false
namespace Go.Proofs.YtobojnodohjiaaaGreatDoor
def lv (l:List UInt8):Nat:=l.foldl (fun n c=>10*n+(c.toNat - 48)) 0
theorem qD5 (l:List UInt8) (c:UInt8):lv (l ++ [c])=10*lv l+(c.toNat - 48):=by unfold lv;rw [List.foldl_append];rfl
theorem qk1 (s:ByteArray) (i:Nat) (h:i<s.size):byt s i=(s.data.toList[i]'(by simpa using h)).toNat:=by
 rw [← qd_ h]
 rfl
theorem qW2 (s:ByteArray):∀ k,k≤s.size→pv s k=lv (s.data.toList.take k)
 | 0,_=>rfl
 | k+1,h=>by
  have hk:k<s.data.toList.length:=by have e:s.data.toList.length=s.size:=Array.length_toList;omega
  rw [List.take_succ_eq_append_getElem hk,qD5,← qW2 s k (by omega),← qk1 s k (by omega)]
  show 10*pvr s 0 k+(byt s (0+k) - 48)=10*pv s k+_
  rw [Nat.zero_add]
  rfl
theorem xx0 (s:ByteArray):pv s s.size=lv s.data.toList:=by
 rw [qW2 s s.size (Nat.le_refl _),List.take_of_length_le (by simp)]
theorem qj3 {d:Nat} (h:d<10):(UInt8.ofNat (48+d)).toNat=48+d:=by
 rw [UInt8.toNat_ofNat'];omega
theorem qj2 {u:Nat} (h:u<10):Lib.decDigits u = [UInt8.ofNat (48+u)]:=Lib.decDigits_one h
theorem xv6 (n:Nat):lv (Lib.decDigits n)=n:=by
 induction n using Nat.strongRecOn with
 | ind n ih =>
  by_cases h:n<10
  ·rw [qj2 h]
   show 10*0+((UInt8.ofNat (48+n)).toNat - 48)=n
   rw [qj3 h];omega
  rw [qc5 h,qD5,ih (n / 10) (by omega),qj3 (by omega)]
  omega
theorem qp0 (n:Nat):∀ c ∈ Lib.decDigits n,48≤c.toNat∧c.toNat≤57:=by
 induction n using Nat.strongRecOn with
 | ind n ih =>
  by_cases h:n<10
  ·rw [qj2 h]
   intro c hc
   rw [List.mem_singleton] at hc
   rw [hc,qj3 h];omega
  rw [qc5 h]
  intro c hc
  rcases List.mem_append.1 hc with hc|hc
  ·exact ih (n / 10) (by omega) c hc
  rw [List.mem_singleton] at hc
  rw [hc,qj3 (by omega)];omega
theorem qR2 (n:Nat):Lib.decDigits n ≠ []:=by
 by_cases h:n<10
 ·rw [qj2 h];simp
 rw [qc5 h];simp
theorem xb9 (n:Nat) (c:UInt8) (l:List UInt8) (h:Lib.decDigits n=c :: l) (h0:c.toNat=48):n=0:=by
 induction n using Nat.strongRecOn generalizing l with
 | ind n ih =>
  by_cases hn:n<10
  ·rw [qj2 hn] at h
   injection h with h1 _
   rw [← h1,qj3 hn] at h0
   omega
  rw [qc5 hn] at h
  cases hd:Lib.decDigits (n / 10) with
  | nil=>exact absurd hd (qR2 _)
  | cons c' l' =>
   rw [hd] at h
   injection h with h1 _
   have:=ih (n / 10) (by omega) l' (by rw [hd,h1])
   omega
theorem size_mk (l:List UInt8):(⟨l.toArray⟩:ByteArray).size=l.length:=by simp [ByteArray.size]
theorem qH4 (n:Nat):qx5 ⟨(Lib.decDigits n).toArray⟩:=by
 have hsz:=size_mk (Lib.decDigits n)
 refine ⟨?_,fun h=>?_,fun i hi=>?_⟩
 ·rw [hsz];exact List.length_pos_iff.2 (qR2 n)
 ·cases hd:Lib.decDigits n with
  | nil=>exact absurd hd (qR2 n)
  | cons c l =>
   have h0:0<(⟨(Lib.decDigits n).toArray⟩:ByteArray).size:=by rw [hsz,hd];simp
   rw [qk1 _ 0 h0] at h
   have:c.toNat=48:=by
    rw [← h]
    simp [hd]
   have hn:=xb9 n c l hd this
   subst hn
   rw [qj2 (by decide)] at hd
   injection hd with _ e
   rw [← e]
   simp [ByteArray.size]
 rw [qk1 _ i hi]
 exact qp0 n _ (by simp)
theorem qI9 (n:Nat) (h:Lib.nDigits n≤4096):pnum ⟨(Lib.decDigits n).toArray⟩=n∧qb8 ⟨(Lib.decDigits n).toArray⟩=0:=by
 have hsz:=size_mk (Lib.decDigits n)
 rw [Lib.decDigits_length] at hsz
 refine ⟨?_,?_⟩
 ·unfold pnum
  rw [if_pos ⟨by rw [hsz];exact h,qH4 n⟩,xx0]
  show lv (Lib.decDigits n).toArray.toList=n
  rw [List.toList_toArray,xv6]
 unfold qb8
 rw [if_neg (by rw [hsz];omega),if_pos (qH4 n)]
theorem xC2:∀ l:List UInt8,(∀ c ∈ l,c.toNat≤57)→lv l<10 ^ l.length:=by
 intro l
 induction h:l.length generalizing l with
 | zero=>intro _;rw [List.length_eq_zero_iff.1 h];decide
 | succ k ih =>
  intro hd
  have hne:l ≠ []:=fun e=>by rw [e] at h;simp at h
  obtain ⟨l',c,rfl⟩:∃ l' c,l=l' ++ [c]:=⟨l.dropLast,l.getLast hne,(List.dropLast_concat_getLast hne).symm⟩
  have:=ih l' (by simpa using h) (fun x hx=>hd x (List.mem_append_left _ hx))
  have:=hd c (by simp)
  rw [qD5,Nat.pow_succ]
  omega
end Go.Proofs.YtobojnodohjiaaaGreatDoor

set_option linter.unusedVariables false
set_option linter.unusedSimpArgs false
namespace Go.Proofs.YtobojnodohjiaaaGreatDoor
open Go.RowKit
def ineg (s:ByteArray):Bool:=Lib.hasPrefix s.data.toList [45]
def idig (s:ByteArray):ByteArray:=⟨(Lib.trimPrefix s.data.toList [45]).toArray⟩
def qc0 (s:ByteArray):Int:=if qb8 (idig s)=0 then (if ineg s=true∧pnum (idig s)=0 then 4 else 0) else qb8 (idig s)
def inum (s:ByteArray):Int:=if qc0 s=0 then (if ineg s then -((pnum (idig s):Nat):Int) else ((pnum (idig s):Nat):Int)) else 0
theorem qf1 (s:ByteArray):(idig s).size≤s.size:=by
 have:=Lib.trimPrefix_le s.data.toList [45]
 unfold idig
 rw [size_mk]
 exact Nat.le_trans this (Nat.le_of_eq Array.length_toList)
theorem ql7 (s:ByteArray):qb8 s=0∨qb8 s=3∨qb8 s=4:=by
 unfold qb8
 split
 ·exact .inr (.inl rfl)
 split
 ·exact .inl rfl
 exact .inr (.inr rfl)
theorem qA2 {s:ByteArray} (h:qb8 s≠0):pnum s=0:=by
 by_cases h1:4096<s.size
 ·exact (ql8 h1).2
 by_cases h2:qx5 s
 ·exact absurd (qp6 om h2).1 h
 exact (qj7 om h2).2
theorem qz5 {s:ByteArray} (h:qb8 (idig s)≠0):qc0 s=qb8 (idig s):=by unfold qc0;rw [if_neg h]
theorem qv7 {s:ByteArray} (h:qb8 (idig s)=0) (h2:ineg s=true) (h3:pnum (idig s)=0):qc0 s=4:=by unfold qc0;rw [if_pos h,if_pos ⟨h2,h3⟩]
theorem qi1 {s:ByteArray} (h:qb8 (idig s)=0) (h2:¬ (ineg s=true∧pnum (idig s)=0)):qc0 s=0:=by unfold qc0;rw [if_pos h,if_neg h2]
theorem qm8 {s:ByteArray} (h:qc0 s≠0):inum s=0:=by unfold inum;rw [if_neg h]
theorem qi3 {s:ByteArray} (h:qc0 s=0):inum s=(if ineg s then -((pnum (idig s):Nat):Int) else ((pnum (idig s):Nat):Int)):=by unfold inum;rw [if_pos h]
theorem qD2 (s:ByteArray):qc0 s=0∨qc0 s=3∨qc0 s=4:=by
 unfold qc0
 split
 ·split
  ·exact .inr (.inr rfl)
  exact .inl rfl
 exact ql7 (idig s)
theorem qI0 (s:ByteArray) (h:qc0 s=0):(inum s).natAbs=pnum (idig s):=by
 rw [qi3 h];split <;> simp
theorem qk4 (a:Int):(itx a).data.toList=if a<0 then 45 :: Lib.decDigits a.natAbs else Lib.decDigits a.natAbs:=by
 unfold itx
 split <;> simp
theorem qw_ (a:Int):ineg (itx a)=decide (a<0):=by
 unfold ineg
 rw [qk4]
 by_cases h:a<0
 ·rw [if_pos h,decide_eq_true h];rfl
 rw [if_neg h,decide_eq_false h]
 cases hd:Lib.decDigits a.natAbs with
 | nil=>rfl
 | cons c l =>
  have:=qp0 a.natAbs c (by rw [hd];exact List.mem_cons_self ..)
  have hc:c≠45:=fun e=>by subst e;exact absurd this.1 (by decide)
  simp [Lib.hasPrefix,List.isPrefixOf,hc]
  try exact fun e=>hc e.symm
theorem xe6 (a:Int):idig (itx a)=⟨(Lib.decDigits a.natAbs).toArray⟩:=by
 have h:=qw_ a
 unfold ineg at h
 unfold idig Lib.trimPrefix
 rw [h]
 by_cases ha:a<0
 ·rw [decide_eq_true ha,if_pos rfl,qk4,if_pos ha];rfl
 rw [decide_eq_false ha,if_neg (by decide),qk4,if_neg ha]
theorem qA1 (a:Int) (h:Lib.nDigits a.natAbs≤4096):qc0 (itx a)=0∧inum (itx a)=a:=by
 obtain ⟨h1,h2⟩:=qI9 a.natAbs h
 rw [← xe6] at h1 h2
 have hc:qc0 (itx a)=0:=qi1 h2 (fun e=>by
  rw [qw_,h1,decide_eq_true_eq] at e
  omega)
 refine ⟨hc,?_⟩
 rw [qi3 hc,qw_,h1]
 by_cases ha:a<0
 ·rw [decide_eq_true ha,if_pos rfl];omega
 rw [decide_eq_false ha,if_neg (by decide)];omega
theorem qx1 (a:Int):(itx a).size=(if a<0 then 1 else 0)+Lib.nDigits a.natAbs:=by
 have h:=congrArg List.length (qk4 a)
 have e:(itx a).size=(itx a).data.toList.length:=Array.length_toList.symm
 rw [e,h]
 split
 ·rw [List.length_cons,Lib.decDigits_length];omega
 rw [Lib.decDigits_length];omega
end Go.Proofs.YtobojnodohjiaaaGreatDoor

set_option maxRecDepth 100000
set_option maxHeartbeats 16000000
set_option linter.unusedVariables false
set_option linter.unusedSimpArgs false
namespace Go.Proofs.YtobojnodohjiaaaGreatDoor
section
open Go.RowKit
attribute [local go_sem ↓] Go.wp_at_zero Go.wp_at_succ
attribute [local go_sem ↓] eq_nat eq_nat_zero eq_int
theorem xn_ (q:Rat) (tx:ByteArray) (w:World) (hs_q:sz q≤100000) (HTX:Hid (itx q.num=tx)) (HW:Hid (q.den=1)) (HT:Hid (Tab w)) :
  CB 153 #[(Value.agg #[.int .u64 (lo q.num.natAbs),.string (bg q.num.natAbs),.bool (q.num<0),.int .u64 (lo (q.den - 1)),.string (bg (q.den - 1))])] w ((.string tx)):=by
 have hn_q:wl q.num.natAbs≤100000:=Nat.le_trans (sz_num q) hs_q
 have hd_q:wl (q.den)≤100000:=Nat.le_trans (sz_den q) hs_q
 go_enter Tryz.func153,Tryz.ntmps153
 have I:=lh_ (hp0 w)
 refine kSl fun K O=>?_;go_wp2
 refine kF_ O (al1_ I) fun Wx0 J=>?_;clear O K
 clear I;have I:=J;clear J
 refine wp_seq ?_
 have lx0:=kc0_ I
 refine ks2_ fun K O T Y=>?_
 refine tk ?_
 refine ck Tryz.call146 (fun w' hw=>qa4 q true _ (decide_eq_true (by exact HW.out))) ?_
 refine nz Y I O ?_;clear Y T I lx0 O K;intro vw1 I
 refine wp_cond_true (by rfl) ?_
 have HB:=HPb I
 have lx0:=kc0_ I
 refine qb2 fun K O T Y=>?_
 refine tk2_ ?_
 refine ck Tryz.call141 (fun w' hw=>qw1 (q.num) tx _ HTX.out om (lh_ (HT.out.gr (Gr.trans HB.out hw)))) ?_
 refine tk ?_
 refine nz Y I O ?_;clear Y T I lx0 HB O K;intro vw2 I
 refine wp_ret ?_
 try simp only [Exit.then,Exit.inBlock]
 exact bR ⟨rfl,I.out.1⟩ (by simp [results,Tryz.results153,go_sem])
theorem xn9 (q:Rat) (tx ty t1 tz:ByteArray) (w:World) (hs_q:sz q≤100000) (HTX:Hid (itx q.num=tx)) (HW:Hid (¬ q.den=1)) (HTY:Hid ((⟨(Lib.decDigits (q.den)).toArray⟩:ByteArray)=ty)) (HC1:Hid (tx ++ (⟨#[47]⟩:ByteArray)=t1)) (HC2:Hid (t1 ++ ty=tz)) (hl1:tx.size≤100000000) (hl2:t1.size≤100000001) (hl3:ty.size≤100000000) (HT:Hid (Tab w)) :
  CB 153 #[(Value.agg #[.int .u64 (lo q.num.natAbs),.string (bg q.num.natAbs),.bool (q.num<0),.int .u64 (lo (q.den - 1)),.string (bg (q.den - 1))])] w ((.string tz)):=by
 have hn_q:wl q.num.natAbs≤100000:=Nat.le_trans (sz_num q) hs_q
 have hd_q:wl (q.den)≤100000:=Nat.le_trans (sz_den q) hs_q
 go_enter Tryz.func153,Tryz.ntmps153
 have I:=lh_ (hp0 w)
 refine kSl fun K O=>?_;go_wp2
 refine kF_ O (al1_ I) fun Wx0 J=>?_;clear O K
 clear I;have I:=J;clear J
 refine wp_seq ?_
 have lx0:=kc0_ I
 refine ks2_ fun K O T Y=>?_
 refine tk ?_
 refine ck Tryz.call146 (fun w' hw=>qa4 q false _ (decide_eq_false (by exact HW.out))) ?_
 refine nz Y I O ?_;clear Y T I lx0 O K;intro vw1 I
 refine wp_cond_false (by rfl) ?_
 refine wp_skip ?_
 show Code.wp _ _ _ _ _
 have HB:=HPb I
 have hlen1:¬ (9223372036854775807<tx.size+1):=by omega
 have hcat1:tx ++ (⟨#[47]⟩:ByteArray)=t1:=HC1.out
 have hlen2:¬ (9223372036854775807<t1.size+ty.size):=by omega
 have hcat2:t1 ++ ty=tz:=HC2.out
 have lx0:=kc0_ I
 refine kS fun K O=>?_
 refine xC_ fun T Y=>?_
 refine tk3_ ?_
 refine ck Tryz.call141 (fun w' hw=>qw1 (q.num) tx _ HTX.out om (lh_ (HT.out.gr (Gr.trans HB.out hw)))) ?_
 refine tk ?_
 refine ck Tryz.call114 (fun w' hw=>qd3 q om _) ?_
 refine ck Tryz.call154 (fun w' hw=>qV7 (q.den) ty _ HTY.out om (lh_ (HT.out.gr (Gr.trans HB.out hw)))) ?_
 refine tk ?_
 refine nlD Y I fun vw2 J=>?_
 clear Y T I lx0 HB
 go_wp2
 refine kF_ O ((J.out).er 0) fun Wx3 I=>?_;clear O K
 clear J
 clear hlen1 hcat1 hlen2 hcat2
 refine wp_ret ?_
 try simp only [Exit.then,Exit.inBlock]
 exact bR ⟨rfl,I.out.1⟩ (by simp [results,Tryz.results153,go_sem])
def ftx (q:Rat):ByteArray:=if q.den=1 then itx q.num else itx q.num ++ (⟨#[47]⟩:ByteArray) ++ ⟨(Lib.decDigits q.den).toArray⟩
theorem qU3 {a:Int} {k:Nat} (h:wl a.natAbs≤k):(itx a).size≤32*k+2:=by
 have h1:=qe6 a.natAbs
 have h2:=nb_wl a.natAbs
 have h3:=qx1 a
 rw [h3]
 have:32*wl a.natAbs≤32*k:=Nat.mul_le_mul_left _ h
 split <;> omega
theorem xb_ {n k:Nat} (h:wl n≤k):(⟨(Lib.decDigits n).toArray⟩:ByteArray).size≤32*k+1:=by
 have h1:=qe6 n
 have h2:=nb_wl n
 rw [size_mk,Lib.decDigits_length]
 have:32*wl n≤32*k:=Nat.mul_le_mul_left _ h
 omega
theorem cat_size (a b:ByteArray):(a ++ b).size=a.size+b.size:=by simp
theorem qt5 (q:Rat) (w:World) (hs:sz q≤100000) (HT:Hid (Tab w)) :
  CB 153 #[(Value.agg #[.int .u64 (lo q.num.natAbs),.string (bg q.num.natAbs),.bool (q.num<0),.int .u64 (lo (q.den - 1)),.string (bg (q.den - 1))])] w (.string (ftx q)):=by
 unfold ftx
 by_cases h:q.den=1
 ·rw [if_pos h]
  exact xn_ q _ w hs (lh_ rfl) (lh_ h) HT
 rw [if_neg h]
 have h1:=qU3 (Nat.le_trans (sz_num q) hs)
 have h2:=xb_ (Nat.le_trans (sz_den q) hs)
 exact xn9 q _ _ _ _ w hs (lh_ rfl) (lh_ h) (lh_ rfl) (lh_ rfl) (lh_ rfl) om (by rw [cat_size];have:(⟨#[47]⟩:ByteArray).size=1:=rfl;omega) om HT
theorem xp_ (q:Rat) (tx:ByteArray) (va1 va2:Value) (w:World) (HTX:Hid (itx q.num=tx)) (hs_q:rz q≤1000000) (HW:Hid (q.den=1)) (bx21:Rn w va1 q.num.natAbs) (bx22:Rn w va2 (q.den - 1)) :
  CB 174 #[.agg #[.bool (decide (q.num<0)),va1,va2]] w ((.string tx)):=by
 have hn_q:tw q.num.natAbs≤1000000:=Nat.le_trans (qe1 q) hs_q
 have hd_q:tw (q.den)≤1000000:=Nat.le_trans (qc8 q) hs_q
 obtain ⟨ao_va1,n_va1,c_va1,rfl⟩:=Rn.sl bx21
 obtain ⟨ao_va2,n_va2,c_va2,rfl⟩:=Rn.sl bx22
 go_enter Tryz.func174,Tryz.ntmps174
 have I:=lh_ (hp0 w)
 replace I:=lh_ ((I.out.ar bx21).ar bx22)
 simp only [lF,lG] at I
 clear bx21 bx22
 refine kSl fun K O=>?_;go_wp2
 refine kF_ O (al1_ I) fun Wx0 J=>?_;clear O K
 clear I;have I:=J;clear J
 refine wp_seq ?_
 have hlz:((n_va2:Int) == 0)=true:=by have hl:=Rn.len (I.out.rn 1 rfl);have h9:=HW.out;rw [hl,h9,qf3];rfl
 have lx23:=kc2_ I
 refine qb2 fun K O T Y=>?_
 iterate 4 refine tk ?_
 refine nz Y I O ?_;clear Y T I lx23 O K;intro vw1 I
 clear hlz
 refine wp_cond_true (by rfl) ?_
 have lx23:=kc2_ I
 refine qb2 fun K O T Y=>?_
 refine tk2_ ?_
 refine ck Tryz.call143 (fun w' hw=>xb1 (q.num) tx _ _ HTX.out (I.out.r 0 rfl hw) om) ?_
 refine tk ?_
 refine nz Y I O ?_;clear Y T I lx23 O K;intro vw2 I
 refine wp_ret ?_
 try simp only [Exit.then,Exit.inBlock]
 exact bR ⟨rfl,I.out.1⟩ (by simp [results,Tryz.results174,go_sem])
theorem xp9 (q:Rat) (tx ty t1 tz:ByteArray) (va1 va2:Value) (w:World) (HTX:Hid (itx q.num=tx)) (hs_q:rz q≤1000000) (HW:Hid (¬ q.den=1)) (HTY:Hid ((⟨(Lib.decDigits (q.den)).toArray⟩:ByteArray)=ty)) (HC1:Hid (tx ++ (⟨#[47]⟩:ByteArray)=t1)) (HC2:Hid (t1 ++ ty=tz)) (hl1:tx.size≤100000000) (hl2:t1.size≤100000001) (hl3:ty.size≤100000000) (bx21:Rn w va1 q.num.natAbs) (bx22:Rn w va2 (q.den - 1)) :
  CB 174 #[.agg #[.bool (decide (q.num<0)),va1,va2]] w ((.string tz)):=by
 have hn_q:tw q.num.natAbs≤1000000:=Nat.le_trans (qe1 q) hs_q
 have hd_q:tw (q.den)≤1000000:=Nat.le_trans (qc8 q) hs_q
 obtain ⟨ao_va1,n_va1,c_va1,rfl⟩:=Rn.sl bx21
 obtain ⟨ao_va2,n_va2,c_va2,rfl⟩:=Rn.sl bx22
 go_enter Tryz.func174,Tryz.ntmps174
 have I:=lh_ (hp0 w)
 replace I:=lh_ ((I.out.ar bx21).ar bx22)
 simp only [lF,lG] at I
 clear bx21 bx22
 refine kSl fun K O=>?_;go_wp2
 refine kF_ O (al1_ I) fun Wx0 J=>?_;clear O K
 clear I;have I:=J;clear J
 refine wp_seq ?_
 have hlz:((n_va2:Int) == 0)=false:=by have hl:=Rn.len (I.out.rn 1 rfl);have h9:=HW.out;have hp:=q.den_pos;have ht:0<tw (q.den - 1):=qo1 om;have h8:¬ (n_va2:Int)=0:=om;simpa using h8
 have lx23:=kc2_ I
 refine qb2 fun K O T Y=>?_
 iterate 4 refine tk ?_
 refine nz Y I O ?_;clear Y T I lx23 O K;intro vw1 I
 clear hlz
 refine wp_cond_false (by rfl) ?_
 refine wp_skip ?_
 show Code.wp _ _ _ _ _
 have hlen1:¬ (9223372036854775807<tx.size+1):=by omega
 have hcat1:tx ++ (⟨#[47]⟩:ByteArray)=t1:=HC1.out
 have HZ1:Hid (q.den=(q).den):=lh_ (rfl)
 have su1:tw (q.den)≤1000000:=by exact Nat.le_trans (qc8 _) om
 have hlen2:¬ (9223372036854775807<t1.size+ty.size):=by omega
 have hcat2:t1 ++ ty=tz:=HC2.out
 have lx23:=kc2_ I
 refine kS fun K O=>?_
 have HG0:Hid (Gr vw1 vw1):=lh_ (Gr.refl _)
 refine xD0 fun T Y=>?_
 refine tk3_ ?_
 refine ck Tryz.call143 (fun w' hw=>xb1 (q.num) tx _ _ HTX.out (I.out.r 0 rfl (HG0.out.trans hw)) om) ?_
 refine tk ?_
 refine ce1 Tryz.call150 HG0 (fun w' hw=>qg7 q (q.den) _ _ _ HZ1.out om (I.out.r 0 rfl (HG0.out.trans hw)) (I.out.r 1 rfl (HG0.out.trans hw))) ?_;clear HG0;intro vv25 HG0 _ ao1 nn1 cc1 RN25
 clear lx23;have lx23:=fun w' (h:Gr _ w')=>kc2_ I w' (HG0.out.trans h)
 refine ck Tryz.call177 (fun w' hw=>xB7 _ (q.den) ty _ HTY.out (RN25.out.gr hw) om) ?_
 refine tk ?_
 refine wpPlan_nil (Y.out _ _ ?_)
 intro G vw2 hg hf
 simp only [puts,Act.put,lA,lB,lC,lD,lE,↓reduceIte,Nat.reduceEqDiff]
 have J:=lh_ ((I.out.gr (HG0.out.trans hg)).ar (RN25.out.gr hg))
 simp only [zq1_,zq2_,zq3_,zq4_,lF,lG] at J
 clear Y T I hg hf HG0 RN25 lx23
 go_wp2
 refine kF_ O (((((J.out).er 3).er 2).er 1).er 0) fun Wx3 I=>?_;clear O K
 clear J
 clear hlen1 hcat1 hlen2 hcat2
 refine wp_ret ?_
 try simp only [Exit.then,Exit.inBlock]
 exact bR ⟨rfl,I.out.1⟩ (by simp [results,Tryz.results174,go_sem])
theorem qM2 {a:Int} {k:Nat} (h:tw a.natAbs≤k):(itx a).size≤14*k+2:=by
 have h1:=qe6 a.natAbs
 have h2:=xf7 a.natAbs
 have h3:=qx1 a
 rw [h3]
 have:14*tw a.natAbs≤14*k:=Nat.mul_le_mul_left _ h
 split <;> omega
theorem qR3 {n k:Nat} (h:tw n≤k):(⟨(Lib.decDigits n).toArray⟩:ByteArray).size≤14*k+1:=by
 have h1:=qe6 n
 have h2:=xf7 n
 rw [size_mk,Lib.decDigits_length]
 have:14*tw n≤14*k:=Nat.mul_le_mul_left _ h
 omega
theorem qW9 (q:Rat) (va1 va2:Value) (w:World) (hs:rz q≤1000000) (h1:Rn w va1 q.num.natAbs) (h2:Rn w va2 (q.den - 1)) :
  CB 174 #[.agg #[.bool (decide (q.num<0)),va1,va2]] w (.string (ftx q)):=by
 unfold ftx
 by_cases h:q.den=1
 ·rw [if_pos h]
  exact xp_ q _ va1 va2 w (lh_ rfl) hs (lh_ h) h1 h2
 rw [if_neg h]
 have e1:=qM2 (Nat.le_trans (qe1 q) hs)
 have e2:=qR3 (Nat.le_trans (qc8 q) hs)
 exact xp9 q _ _ _ _ va1 va2 w (lh_ rfl) hs (lh_ h) (lh_ rfl) (lh_ rfl) (lh_ rfl) om (by rw [cat_size];have:(⟨#[47]⟩:ByteArray).size=1:=rfl;omega) om h1 h2
end
section
open Go.RowKit
attribute [local go_sem ↓] Go.wp_at_zero Go.wp_at_succ
attribute [local go_sem ↓] eq_nat eq_nat_zero eq_int
end
section
open Go.RowKit
attribute [local go_sem ↓] Go.wp_at_zero Go.wp_at_succ
end
end Go.Proofs.YtobojnodohjiaaaGreatDoor

set_option maxRecDepth 100000
set_option maxHeartbeats 16000000
set_option linter.unusedVariables false
set_option linter.unusedSimpArgs false
namespace Go.Proofs.YtobojnodohjiaaaGreatDoor
open Go.RowKit
attribute [local go_sem ↓] Go.wp_at_zero Go.wp_at_succ
attribute [local go_sem ↓] eq_nat eq_nat_zero eq_int
attribute [local go_sem] Instr.field asAgg
theorem qT3 (bbxn:Bool) (kxn kxd:Nat) (ao_xn:Option Addr) (c_xn:Nat) (ao_xd:Option Addr) (c_xd:Nat) (w:World)  :
  CB 112 #[.agg #[.bool bbxn,(.slice ao_xn kxn c_xn),(.slice ao_xd kxd c_xd)]] w ((.agg #[.bool false,.slice ao_xd kxd c_xd])):=by
 go_enter Tryz.func112,Tryz.ntmps112
 have I:=lh_ (hp0 w)
 refine kSl fun K O=>?_;go_wp2
 refine kF_ O (al2_ I) fun Wx0 J=>?_;clear O K
 clear I;have I:=J;clear J
 generalize w.heap.size+1=gx1 at *
 have lx0:=kc0_ I
 refine ks3_ fun K O T Y=>?_
 refine tk3_ ?_
 refine nlS Y I fun vw1 J=>?_
 clear Y T I lx0
 have lx1:=kc1_ J;have fx1:=kf1_ J
 have r0:=Gr.refl vw1
 go_wp2
 refine kO O ?_;clear O K
 clear r0 lx1 fx1
 refine fH (((J.out).put2 1 0 rfl).er 0) fun Wx1 I=>?_
 clear J
 refine wp_ret ?_
 try simp only [Exit.then,Exit.inBlock]
 have lx1:=kc0_ I
 have r0:=Gr.refl Wx1
 exact bR ⟨rfl,I.out.1⟩ (by simp [results,Tryz.results112,go_sem,lx1 _ r0])
theorem qw7 (b:Bool) (u v:Value) {ao:Option Addr} {k c:Nat} {ao':Option Addr} {k' c':Nat} (w:World) (hu:u=.slice ao k c:=by rfl) (hv:v=.slice ao' k' c':=by rfl) :
  CB 112 #[.agg #[.bool b,u,v]] w (.agg #[.bool false,v]):=by
 subst hu hv
 exact qT3 b k k' ao c ao' c' w
theorem qd2 (bbxn:Bool) (kxn:Nat) (fxn:Nat→Nat) (mxn:Nat) (ixn:Int) (kxd:Nat) (fxd:Nat→Nat) (mxd:Nat) (q:Rat) (ao_xn:Option Addr) (c_xn:Nat) (ao_xd:Option Addr) (c_xd:Nat) (w:World) (HWxn:Hid (Wa w (.slice ao_xn kxn c_xn) kxn fxn)) (HFxn:Hid (∀ i,i<kxn→fxn i<4294967296)) (HVxn:Hid (vl fxn kxn=mxn)) (HAxn:Hid ((if bbxn then -((mxn:Nat):Int) else ((mxn:Nat):Int))=ixn)) (HWxd:Hid (Wa w (.slice ao_xd kxd c_xd) kxd fxd)) (HFxd:Hid (∀ i,i<kxd→fxd i<4294967296)) (HVxd:Hid (vl fxd kxd=mxd)) (HQx:Hid (mkRat ixn (mxd+1)=q)) (hkn:kxn≤100) (hmn:wl mxn≤100) (hkd:kxd≤100) (hmd:wl mxd≤100) :
  CB 35 #[.agg #[.bool bbxn,(.slice ao_xn kxn c_xn),(.slice ao_xd kxd c_xd)]] w (.agg #[.int .u64 (lo q.num.natAbs),.string (bg q.num.natAbs),.bool (q.num<0),.int .u64 (lo (q.den - 1)),.string (bg (q.den - 1))]):=by
 have hin_:wl (Int.natAbs ixn)≤100:=by rw [zsize HAxn.out];exact hmn
 have hmi:wl (Int.natAbs (mxd:Int))≤100:=by rw [Int.natAbs_natCast];exact hmd
 have hmt:tw (Int.natAbs (mxd:Int))≤300:=by rw [Int.natAbs_natCast];have:=qF5 mxd;omega
 go_enter Tryz.func35,Tryz.ntmps35
 have I:=lh_ (hp0 w)
 refine kSl fun K O=>?_;go_wp2
 refine kF_ O (al2_ I) fun Wx0 J=>?_;clear O K
 clear I;have I:=J;clear J
 generalize w.heap.size+1=gx1 at *
 have HB:=HPb I
 have su_0_1:wl 1≤1:=wl_le.2 (by decide +kernel)
 obtain ⟨u1,HZ1⟩:=ex_ ((Int.natAbs ((mxd:Int)))+(1))
 have su1:wl u1≤101:=by rw [← HZ1.out];have:=wl_add (Int.natAbs ((mxd:Int))) (1);omega
 have HZ2:Hid (mkRat ixn u1=q):=lh_ (by rw [← HQx.out];simp only [← HZ1.out];rfl)
 have su2:sz q≤101:=by have e:=HZ2.out;first|omega|(rw [← e];exact qc3 (k:=101) om om (by decide))
 have lx0:=kc0_ I
 refine kS fun K O=>?_
 refine wp_region_plan 14 [13] [12] (fun _=>3) (fun _=>.cells #[.int .u64 0,.string ⟨#[]⟩,.bool false,.int .u64 0,.string ⟨#[]⟩] 36) [(true,0),(true,1),(true,3),(true,2),(true,4),(true,5),(true,6),(true,7),(true,8),(true,9),(true,10),(true,11),(true,12)] (by kernel_rfl) (by kernel_rfl) qu_ qr6 (fun _ _ _ _ _ h=>h) (fun T Y=>?_)
 refine tk3_ ?_
 refine ck Tryz.call32 (fun w' hw=>zlof bbxn kxn fxn mxn ixn ao_xn c_xn w' (lh_ (HWxn.out.gr (Gr.trans HB.out hw))) HFxn HVxn HAxn om om) ?_
 refine ck Tryz.call112 (fun w' hw=>qw7 bbxn (.slice ao_xn kxn c_xn) (.slice ao_xd kxd c_xd) _) ?_
 refine ck Tryz.call32 (fun w' hw=>zlof false kxd fxd mxd (mxd:Int) ao_xd c_xd w' (lh_ (HWxd.out.gr (Gr.trans HB.out hw))) HFxd HVxd (lh_ rfl) om om) ?_
 refine ck Tryz.call100 (fun w' hw=>qd9 ((mxd:Int)) _) ?_
 refine ck Tryz.call24 (fun w' hw=>nzof 1 _ (by decide)) ?_
 refine ck Tryz.call109 (fun w' hw=>xp0 (Int.natAbs ((mxd:Int))) (1) u1 _ HZ1.out om om) ?_
 refine ck Tryz.call102 (fun w' hw=>qd7 ixn u1 q _ (lh_ HZ2.out) (by simp only [← HZ1.out];omega) om om) ?_
 refine tk3_ ?_
 refine wpPlan_nil (Y.out _ _ ?_)
 intro G vw1 hg hf
 simp only [puts,Act.put,lA,lB,lC,lD,lE,↓reduceIte,Nat.reduceEqDiff]
 have J:=lh_ (I.out.fr hg hf (zs:=[(#[.int .u64 0,.string ⟨#[]⟩,.bool false,.int .u64 0,.string ⟨#[]⟩],36)]) rfl (by decide) (by decide))
 simp only [zq1_,zq2_,zq3_,zq4_,lF,lG] at J
 clear Y T I hg hf lx0 HB
 generalize G 13=gx3 at *
 have lx3:=kc2_ J;have fx3:=kf2_ J
 have r0:=Gr.refl vw1
 go_wp2
 refine kO O ?_;clear O K
 clear r0 lx3 fx3
 refine fH (((((J.out).put2 2 0 rfl).put2 2 2 rfl).put 2 4 _ rfl).er 0) fun Wx1 I=>?_
 clear J
 have lx3:=kc1_ I
 refine ks1_ fun K O T Y=>?_
 refine tk ?_
 refine nlS Y I fun vw2 J=>?_
 clear Y T I lx3
 have lx1:=kc0_ J;have fx1:=kf0_ J
 have r0:=Gr.refl vw2
 go_wp2
 refine kO O ?_;clear O K
 clear r0 lx1 fx1
 refine fH (((((J.out).put2 0 0 rfl).put2 0 2 rfl).put 0 4 _ rfl).er 1) fun Wx2 I=>?_
 clear J
 refine wp_ret ?_
 try simp only [Exit.then,Exit.inBlock]
 have lx1:=kc0_ I
 have r0:=Gr.refl Wx2
 exact bR ⟨rfl,I.out.1⟩ (by simp [results,Tryz.results35,go_sem,lx1 _ r0])
theorem qf9 (bbxn:Bool) (kxn:Nat) (fxn:Nat→Nat) (mxn:Nat) (ixn:Int) (kxd:Nat) (fxd:Nat→Nat) (mxd:Nat) (q:Rat) (ao_xn:Option Addr) (c_xn:Nat) (ao_xd:Option Addr) (c_xd:Nat) (w:World) (HWxn:Hid (Wa w (.slice ao_xn kxn c_xn) kxn fxn)) (HFxn:Hid (∀ i,i<kxn→fxn i<4294967296)) (HVxn:Hid (vl fxn kxn=mxn)) (HAxn:Hid ((if bbxn then -((mxn:Nat):Int) else ((mxn:Nat):Int))=ixn)) (HWxd:Hid (Wa w (.slice ao_xd kxd c_xd) kxd fxd)) (HFxd:Hid (∀ i,i<kxd→fxd i<4294967296)) (HVxd:Hid (vl fxd kxd=mxd)) (HQx:Hid (mkRat ixn (mxd+1)=q)) (hkn:kxn≤100) (hmn:wl mxn≤100) (hkd:kxd≤100) (hmd:wl mxd≤100) :
  Calls Tryz.prog 128 #[.agg #[.bool bbxn,.slice ao_xn kxn c_xn,.slice ao_xd kxd c_xd]] w fun e w'=>(∃ r1 r2:Value,e=.returned (.agg #[.bool (decide (q.num<0)),r1,r2])∧Rn w' r1 q.num.natAbs∧Rn w' r2 (q.den - 1))∧Gr w w':=by
 have hin_:tw (Int.natAbs ixn)≤300:=by rw [zsize HAxn.out];have:=qF5 mxn;omega
 have hmi:wl (Int.natAbs (mxd:Int))≤100:=by rw [Int.natAbs_natCast];exact hmd
 have hmt:tw (Int.natAbs (mxd:Int))≤300:=by rw [Int.natAbs_natCast];have:=qF5 mxd;omega
 go_enter Tryz.func128,Tryz.ntmps128
 have I:=lh_ (hp0 w)
 refine kSl fun K O=>?_;go_wp2
 refine kF_ O (al2_ I) fun Wx0 J=>?_;clear O K
 clear I;have I:=J;clear J
 generalize w.heap.size+1=gx1 at *
 have HB:=HPb I
 have HZ1:Hid ((1:Int)=1):=lh_ (by decide +kernel)
 have su1:tw (Int.natAbs (1))≤1:=qe_.2 (by decide +kernel)
 obtain ⟨u2,HZ2⟩:=ex_ (((mxd:Int))+(1))
 have su2:tw u2.natAbs≤301:=by rw [← HZ2.out];have:=qp_ ((mxd:Int)) (1);omega
 have HZ3:Hid (mkRat ixn u2.natAbs=q):=lh_ (by rw [← HQx.out];simp only [← HZ2.out];rfl)
 have su3:rz q≤301:=by have e:=HZ3.out;first|omega|(rw [← e];exact qk8 (k:=301) om om (by decide))
 have lx0:=kc0_ I
 refine kS fun K O=>?_
 have HG0:Hid (Gr Wx0 Wx0):=lh_ (Gr.refl _)
 refine pd9_ fun T Y=>?_
 refine tk3_ ?_
 refine ce1 Tryz.call209 HG0 (fun w' hw=>(xB4 bbxn kxn fxn mxn ixn ao_xn c_xn w' (lh_ (HWxn.out.gr (Gr.trans HB.out hw))) HFxn HVxn HAxn om om)) ?_;clear HG0;intro vv3 HG0 HGS ao1 nn1 cc1 RN3
 replace HB:=lh_ (HB.out.trans (HGS.out.mono HB.out.size))
 clear HGS
 clear lx0;have lx0:=fun w' (h:Gr _ w')=>kc0_ I w' (HG0.out.trans h)
 refine ck Tryz.call112 (fun w' hw=>qw7 bbxn (.slice ao_xn kxn c_xn) (.slice ao_xd kxd c_xd) _) ?_
 refine ce1 Tryz.call209 HG0 (fun w' hw=>(xB4 false kxd fxd mxd (mxd:Int) ao_xd c_xd w' (lh_ (HWxd.out.gr (Gr.trans HB.out hw))) HFxd HVxd (lh_ rfl) om om)) ?_;clear HG0;intro vv4 HG0 HGS ao2 nn2 cc2 RN4
 replace RN3:=lh_ (RN3.out.gr HGS.out)
 replace HB:=lh_ (HB.out.trans (HGS.out.mono HB.out.size))
 clear HGS
 clear lx0;have lx0:=fun w' (h:Gr _ w')=>kc0_ I w' (HG0.out.trans h)
 refine ce1 Tryz.call211 HG0 (fun w' hw=>qG9 (1) (1) _ HZ1.out (by decide) (by decide)) ?_;clear HG0;intro vv5 HG0 HGS ao3 nn3 cc3 RN5
 replace RN3:=lh_ (RN3.out.gr HGS.out)
 replace RN4:=lh_ (RN4.out.gr HGS.out)
 replace HB:=lh_ (HB.out.trans (HGS.out.mono HB.out.size))
 clear HGS
 clear lx0;have lx0:=fun w' (h:Gr _ w')=>kc0_ I w' (HG0.out.trans h)
 refine ce1 Tryz.call210 HG0 (fun w' hw=>qo6 ((mxd:Int)) (1) u2 _ _ _ HZ2.out om om (RN4.out.gr hw) (RN5.out.gr hw)) ?_;clear HG0;intro vv6 HG0 HGS ao4 nn4 cc4 RN6
 replace RN3:=lh_ (RN3.out.gr HGS.out)
 replace RN4:=lh_ (RN4.out.gr HGS.out)
 replace RN5:=lh_ (RN5.out.gr HGS.out)
 replace HB:=lh_ (HB.out.trans (HGS.out.mono HB.out.size))
 clear HGS
 clear lx0;have lx0:=fun w' (h:Gr _ w')=>kc0_ I w' (HG0.out.trans h)
 refine tk ?_
 refine ce2 Tryz.call195 HG0 (fun w' hw=>qj9 ixn u2.natAbs q _ _ _ HZ3.out (by first|exact ok|(simp only [← HZ2.out] <;> first|exact ok)) om om (RN3.out.gr hw) (RN6.out.gr hw)) ?_;clear HG0;intro vv7 HG0 HGS ao5 nn5 cc5 ao6 nn6 cc6 RN7 RN8
 replace RN3:=lh_ (RN3.out.gr HGS.out)
 replace RN4:=lh_ (RN4.out.gr HGS.out)
 replace RN5:=lh_ (RN5.out.gr HGS.out)
 replace RN6:=lh_ (RN6.out.gr HGS.out)
 replace HB:=lh_ (HB.out.trans (HGS.out.mono HB.out.size))
 clear HGS
 clear lx0;have lx0:=fun w' (h:Gr _ w')=>kc0_ I w' (HG0.out.trans h)
 refine wpPlan_nil (Y.out _ _ ?_)
 intro G vw1 hg hf
 simp only [puts,Act.put,lA,lB,lC,lD,lE,↓reduceIte,Nat.reduceEqDiff]
 have J:=lh_ (((((((I.out.gr (HG0.out.trans hg)).ar (RN3.out.gr hg)).ar (RN4.out.gr hg)).ar (RN5.out.gr hg)).ar (RN6.out.gr hg)).ar (RN7.out.gr hg)).ar (RN8.out.gr hg))
 simp only [zq1_,zq2_,zq3_,zq4_,lF,lG] at J
 clear Y T I hg hf HG0 RN3 RN4 RN5 RN6 RN7 RN8 lx0 HB
 have lx1:=kc1_ J;have fx1:=kf1_ J
 have r0:=Gr.refl vw1
 go_wp2
 refine kO O ?_;clear O K
 clear r0 lx1 fx1
 refine fH ((((((((J.out).put2 1 0 rfl).put 1 2 _ rfl).er 5).er 4).er 3).er 2).er 0) fun Wx1 I=>?_
 clear J
 refine wp_ret ?_
 try simp only [Exit.then,Exit.inBlock]
 have lx1:=kc0_ I
 have r0:=Gr.refl Wx1
 exact bR ⟨⟨(.slice ao5 nn5 cc5),(.slice ao6 nn6 cc6),rfl,(I.out.rn 1 rfl),(I.out.rn 2 rfl)⟩,I.out.1⟩ (by simp [results,Tryz.results128,go_sem,lx1 _ r0])
theorem qa5 (q:Rat) (va1 va2:Value) (w:World) (hs:sz q≤100000) (hr:rz q≤1000000) (bx21:Rn w va1 q.num.natAbs) (bx22:Rn w va2 (q.den - 1)) (HT:Hid (Tab w)) :
  CB 66 #[(Value.agg #[.int .u64 (lo q.num.natAbs),.string (bg q.num.natAbs),.bool (q.num<0),.int .u64 (lo (q.den - 1)),.string (bg (q.den - 1))]),.agg #[.bool (decide (q.num<0)),va1,va2]] w ((.bool true)):=by
 obtain ⟨ao_va1,n_va1,c_va1,rfl⟩:=Rn.sl bx21
 obtain ⟨ao_va2,n_va2,c_va2,rfl⟩:=Rn.sl bx22
 go_enter Tryz.func66,Tryz.ntmps66
 have I:=lh_ (hp0 w)
 replace I:=lh_ ((I.out.ar bx21).ar bx22)
 simp only [lF,lG] at I
 clear bx21 bx22
 refine kSl fun K O=>?_;go_wp2
 refine kF_ O (al2_ I) fun Wx0 J=>?_;clear O K
 clear I;have I:=J;clear J
 generalize w.heap.size+1=gx24 at *
 have HB:=HPb I
 have hse:((ftx q).toList == (ftx q).toList)=true:=by simp
 have lx23:=kc2_ I
 have lx24:=kc3_ I
 refine kS fun K O=>?_
 refine xC3 fun T Y=>?_
 refine tk2_ ?_
 refine ck Tryz.call153 (fun w' hw=>qt5 q _ om (lh_ (HT.out.gr (Gr.trans HB.out hw)))) ?_
 refine ck Tryz.call174 (fun w' hw=>qW9 q _ _ _ om (I.out.r 0 rfl hw) (I.out.r 1 rfl hw)) ?_
 refine tk ?_
 refine nlD Y I fun vw1 J=>?_
 clear Y T I lx23 lx24 HB
 go_wp2
 refine kF_ O (((((J.out).er 3).er 2).er 1).er 0) fun Wx1 I=>?_;clear O K
 clear J
 clear hse
 refine wp_ret ?_
 try simp only [Exit.then,Exit.inBlock]
 exact bR ⟨rfl,I.out.1⟩ (by simp [results,Tryz.results66,go_sem])
theorem qd8 (q:Rat) (s:ByteArray) (b:Bool) (w:World) (HB_:Hid (((ftx q).toList == s.toList)=b)) (hs:sz q≤100000) (HT:Hid (Tab w)) :
  CB 160 #[(Value.agg #[.int .u64 (lo q.num.natAbs),.string (bg q.num.natAbs),.bool (q.num<0),.int .u64 (lo (q.den - 1)),.string (bg (q.den - 1))]),.string s] w ((.bool b)):=by
 go_enter Tryz.func160,Tryz.ntmps160
 have I:=lh_ (hp0 w)
 refine kSl fun K O=>?_;go_wp2
 refine kF_ O (al1_ I) fun Wx0 J=>?_;clear O K
 clear I;have I:=J;clear J
 have HB:=HPb I
 have hse:((ftx q).toList == s.toList)=b:=HB_.out
 have lx0:=kc0_ I
 refine ks5_ fun K O T Y=>?_
 refine tk ?_
 refine ck Tryz.call153 (fun w' hw=>qt5 q _ om (lh_ (HT.out.gr (Gr.trans HB.out hw)))) ?_
 refine tk3_ ?_
 refine nzR Y O (fun w2 hg=>(I.out.gr hg).er 0) ?_;clear Y T I lx0 HB O K;intro Wx1 I
 clear hse
 refine wp_ret ?_
 try simp only [Exit.then,Exit.inBlock]
 exact bR ⟨rfl,I.out.1⟩ (by simp [results,Tryz.results160,go_sem])
theorem qf7 (n d:Int) (z:Rat) (w:World) (HZ:Hid ((n:Rat) / (d:Rat)=z)) (hd:d≠0) (h1:-9223372036854775808≤n) (h2:n≤9223372036854775807) (h3:-9223372036854775808≤d) (h4:d≤9223372036854775807) :
  CB 159 #[.int .i64 n,.int .i64 d] w (.agg #[.int .u64 (lo z.num.natAbs),.string (bg z.num.natAbs),.bool (z.num<0),.int .u64 (lo (z.den - 1)),.string (bg (z.den - 1))]):=by
 go_enter Tryz.func159,Tryz.ntmps159
 have I:=lh_ (hp0 w)
 refine kSl fun K O=>?_;go_wp2
 refine kF_ O (al1_ I) fun Wx0 J=>?_;clear O K
 clear I;have I:=J;clear J
 have HZ1:Hid (((n:Int):Rat) / ((d:Int):Rat)=z):=lh_ (HZ.out)
 have su1:sz z≤4:=by have e:=HZ1.out;first|omega|(rw [← e];exact qy4 n d om om om om)
 refine qa2 fun K O T Y=>?_
 refine tk2_ ?_
 refine ck Tryz.call104 (fun w' hw=>qD1 n d z _ HZ1.out (by first|decide|omega) om om om om) ?_
 refine tk3_ ?_
 refine nlS Y I fun vw1 J=>?_
 clear Y T I
 go_wp2
 refine kF_ O ((J.out).aL (vw1.heap.size)) fun Wx1 I=>?_;clear O K
 clear J
 generalize vw1.heap.size=gx2 at *
 have lx2:=kc1_ I
 refine ks1_ fun K O T Y=>?_
 refine tk ?_
 refine nlS Y I fun vw2 J=>?_
 clear Y T I lx2
 have lx0:=kc0_ J;have fx0:=kf0_ J
 have r0:=Gr.refl vw2
 go_wp2
 refine kO O ?_;clear O K
 clear r0 lx0 fx0
 refine fH (((((J.out).put2 0 0 rfl).put2 0 2 rfl).put 0 4 _ rfl).er 1) fun Wx2 I=>?_
 clear J
 refine wp_ret ?_
 try simp only [Exit.then,Exit.inBlock]
 have lx0:=kc0_ I
 have r0:=Gr.refl Wx2
 exact bR ⟨rfl,I.out.1⟩ (by simp [results,Tryz.results159,go_sem,lx0 _ r0])
end Go.Proofs.YtobojnodohjiaaaGreatDoor

set_option linter.unusedVariables false
set_option linter.unusedSimpArgs false
namespace Go.Proofs.YtobojnodohjiaaaGreatDoor
open Go.RowKit
attribute [local go_sem ↓] Go.wp_at_zero Go.wp_at_succ
theorem sz_great {i:Int} {m k:Nat} (h1:wl i.natAbs≤k) (h2:wl m≤k):sz (mkRat i (m+1))≤k+1:=by
 have h3:=wl_add m 1
 have h4:wl 1≤1:=wl_small (by decide)
 have h5:wl (m+1)≤k+1:=by
  rcases Nat.eq_zero_or_pos m with h|h
  ·subst h;exact Nat.le_trans (wl_small (by decide)) om
  have:=qo5 h
  omega
 exact qc3 om h5 om
theorem qc2 {i:Int} {m k K:Nat} (h1:wl i.natAbs≤k) (h2:wl m≤k) (h:3*k+3≤K):rz (mkRat i (m+1))≤K:=by
 have h3:=sz_great h1 h2
 have h4:=qF5 i.natAbs
 have h5:=qF5 (m+1)
 have h6:wl (m+1)≤k+1:=by
  have:=wl_add m 1
  have h4:wl 1≤1:=wl_small (by decide)
  rcases Nat.eq_zero_or_pos m with h|h
  ·subst h;exact Nat.le_trans (wl_small (by decide)) om
  have:=qo5 h
  omega
 exact qk8 om om om
theorem sgQ_ne {b:Rat} (h:b≠0):¬ sgQ b=0:=by
 unfold sgQ;rw [if_neg h];split <;> decide
theorem sgQ_dne {a b:Rat} (h:a≠b):¬ sgQ (a - b)=0:=sgQ_ne (fun e=>h (by have:=Rat.sub_add_cancel (a:=a) (b:=b);rw [e,Rat.zero_add] at this;exact this.symm))
theorem xl0 (a:Rat):0≤sgQ (a*a):=by
 have h:¬ a*a<0:=by
  rw [Rat.not_lt]
  rcases @Rat.le_total 0 a with h|h
  ·exact Rat.mul_nonneg h h
  have h2:0 ≤ -a:=by have:=Rat.neg_le_neg h;rwa [Rat.neg_zero] at this
  have:=Rat.mul_nonneg h2 h2
  rwa [Rat.neg_mul,Rat.mul_neg,Rat.neg_neg] at this
 unfold sgQ;split
 ·decide
 first|decide|(rw [if_neg h];decide)
end Go.Proofs.YtobojnodohjiaaaGreatDoor
