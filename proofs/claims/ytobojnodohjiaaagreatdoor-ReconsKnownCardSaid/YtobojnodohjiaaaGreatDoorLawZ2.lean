
/- plain facts and z-forms for the laws of gussetlaw02. -/
import Derived.Test.YtobojnodohjiaaaGreatDoorHp
import Derived.Test.YtobojnodohjiaaaGreatDoorIntE
import Derived.Test.YtobojnodohjiaaaGreatDoorPJ
import Derived.Test.YtobojnodohjiaaaGreatDoorPT
import Derived.Test.YtobojnodohjiaaaGreatDoorRefL
import Derived.Test.YtobojnodohjiaaaGreatDoorPI
import Derived.Test.YtobojnodohjiaaaGreatDoorPE
import Derived.Test.YtobojnodohjiaaaGreatDoorPP
import Derived.Lib.Strings
import Derived.Test.YtobojnodohjiaaaGreatDoorShelf
import Derived.Test.YtobojnodohjiaaaGreatDoorPY
import Derived.Test.YtobojnodohjiaaaGreatDoorPC
set_option maxRecDepth 100000
set_option maxHeartbeats 16000000
set_option linter.unusedVariables false
set_option linter.unusedSimpArgs false
namespace Go.Proofs.YtobojnodohjiaaaGreatDoor
section
open Go.RowKit
attribute [local go_sem ↓] Go.wp_at_zero Go.wp_at_succ
attribute [local go_sem ↓] qb8 qa3 qc8
theorem zlof (bx:Bool) (kx:Nat) (fx:Nat→Nat) (mx:Nat) (a:Int) (ao_x:Option Addr) (c_x:Nat) (w:World) (HWx:Hid (Wa w (.slice ao_x kx c_x) kx fx)) (HFx:Hid (∀ i,i<kx→fx i<4294967296)) (HVx:Hid (vl fx kx=mx)) (HAx:Hid ((if bx then -((mx:Nat):Int) else ((mx:Nat):Int))=a)) (hkx:kx≤100) (hmx:wl mx≤100) :
  Calls Tryz.prog 32 #[(Value.agg #[.bool bx,(.slice ao_x kx c_x)])] w fun e w'=>e=.returned (.agg #[.int .u64 (lo a.natAbs),.string (bg a.natAbs),.bool (a<0)])∧Below w.heap.size w w':=by
 go_enter Tryz.func32,Tryz.ntmps32
 have I:=lh_ (hp0 w)
 refine kS fun K O=>?_
 refine wp_region_lit ?_
 go_wp2
 refine kF_ O (((I.out).aL (w.heap.size)).aL (w.heap.size+1)) fun Wx0 J=>?_;clear O K
 clear I;have I:=J;clear J
 generalize w.heap.size+1=gx1 at *
 have HB:=HPb I
 have HZ1:Hid ((if bx then -((mx:Nat):Int) else ((mx:Nat):Int))=a):=lh_ (HAx.out)
 have su1:wl a.natAbs≤100:=by have e:=HZ1.out;first|omega|(rw [← e];split <;> simp <;> omega)
 have lx0:=kc0_ I
 refine kS fun K O=>?_
 refine pd4_ fun T Y=>?_
 iterate 4 refine tk ?_
 refine ck Tryz.call31 (fun w' hw=>xt8 _ kx fx mx w _ HVx.out om HWx.out (Gr.trans HB.out hw) HFx.out) ?_
 refine ck Tryz.call37 (fun w' hw=>qb2 bx mx a _ HZ1.out) ?_
 refine nlD Y I fun vw1 J=>?_
 clear Y T I lx0 HB
 have lx1:=kc1_ J;have fx1:=kf1_ J
 have r0:=Gr.refl vw1
 go_wp2
 refine kO O ?_;clear O K
 clear r0 lx1 fx1
 refine fH ((((J.out).put2 1 0 rfl).put 1 2 _ rfl).er 0) fun Wx1 I=>?_
 clear J
 refine wp_ret ?_
 try simp only [Exit.then,Exit.inBlock]
 have lx1:=kc0_ I
 have r0:=Gr.refl Wx1
 exact bodyPost_ret (v:=.agg #[.int .u64 (lo a.natAbs),.string (bg a.natAbs),.bool (a<0)]) (by simp [results,Tryz.results32,go_sem,lx1 _ r0]) rfl ⟨rfl,I.out.1⟩
end
section
open Go.RowKit
def itx (a:Int):ByteArray:=if a<0 then (⟨#[45]⟩:ByteArray) ++ ⟨(Lib.decDigits a.natAbs).toArray⟩ else ⟨(Lib.decDigits a.natAbs).toArray⟩
theorem qS8 (a:Int) (w:World) (ha:wl a.natAbs≤900000) (HT:Hid (Tab w)) :
  Calls Tryz.prog 141 #[(Value.agg #[.int .u64 (lo a.natAbs),.string (bg a.natAbs),.bool (a<0)])] w fun e w'=>e=.returned (.string (itx a))∧Below w.heap.size w w':=by
 by_cases hn:a<0
 ·have HS1:Hid (decide (a<0)=true):=decide_eq_true hn
  have HSG:Hid (itx a=(⟨#[45]⟩:ByteArray) ++ ⟨(Lib.decDigits a.natAbs).toArray⟩):=if_pos hn
  clear hn
  rw [HSG.out,HS1.out]
  obtain ⟨W0,HW⟩:∃ W0,Hid ((w.alloc (.cells #[.int .u64 (lo (a.natAbs)),.string (bg (a.natAbs)),.bool true] 34))=W0):=⟨_,lh_ rfl⟩
  have HS:=lh_ (show w.heap.size+1=W0.heap.size by rw [← HW.out];simp)
  have z0:w.heap.size<W0.heap.size:=by rw [← HS.out];omega
  have c0_0:W0.cell? ⟨w.heap.size,0,none⟩=some (.int .u64 (lo (a.natAbs))):=by rw [← HW.out];simp [go_sem]
  have c0_1:W0.cell? ⟨w.heap.size,1,none⟩=some (.string (bg (a.natAbs))):=by rw [← HW.out];simp [go_sem]
  have c0_2:W0.cell? ⟨w.heap.size,2,none⟩=some (.bool true):=by rw [← HW.out];simp [go_sem]
  have f_0:W0.frozen? ⟨w.heap.size,0,none⟩=false:=by rw [← HW.out];simp [go_sem]
  have f_1:W0.frozen? ⟨w.heap.size,1,none⟩=false:=by rw [← HW.out];simp [go_sem]
  have f_2:W0.frozen? ⟨w.heap.size,2,none⟩=false:=by rw [← HW.out];simp [go_sem]
  have hbw:Below w.heap.size w W0:=by rw [← HW.out];exact (Below.refl _ _).alloc (Nat.le_refl _) _
  have HR:Hid (∀ w1:World,Below W0.heap.size W0 w1→w1.cell? ⟨w.heap.size,0,none⟩=some (.int .u64 (lo (a.natAbs)))∧w1.cell? ⟨w.heap.size,1,none⟩=some (.string (bg (a.natAbs)))∧w1.cell? ⟨w.heap.size,2,none⟩=some (.bool true)∧w1.frozen? ⟨w.heap.size,0,none⟩=false∧w1.frozen? ⟨w.heap.size,1,none⟩=false∧w1.frozen? ⟨w.heap.size,2,none⟩=false∧Below w.heap.size w w1):=fun w1 hb=>⟨(held W0 w1 hb _ _ z0).trans c0_0,(held W0 w1 hb _ _ z0).trans c0_1,(held W0 w1 hb _ _ z0).trans c0_2,(qc5 W0 w1 hb _ _ z0).trans f_0,(qc5 W0 w1 hb _ _ z0).trans f_1,(qc5 W0 w1 hb _ _ z0).trans f_2,grow hbw hb⟩
  have HBW:=lh_ hbw
  clear hbw
  have hlen:¬ (9223372036854775807<1+(Lib.decDigits a.natAbs).length):=by rw [Lib.decDigits_length];have:=qg0 a.natAbs;have:=qD0 a.natAbs;omega
  go_enter Tryz.func141,Tryz.ntmps141
  go_wp2_with fail
  rw [HW.out]
  refine (qx6 a.natAbs _ om (lh_ (HT.out.gr HBW.out))).mono ?_
  rintro e w1 ⟨rfl,hb1⟩
  clear c0_0 c0_1 c0_2 f_0 f_1 f_2 HBW;obtain ⟨c0_0,c0_1,c0_2,f_0,f_1,f_2,hbw⟩:=HR.out w1 hb1;have HBW:=lh_ hbw;clear hbw
  go_wp2_with fail
  go_ret
  exact ⟨rfl,HBW.out⟩
 ·have HS1:Hid (decide (a<0)=false):=decide_eq_false hn
  have HSG:Hid (itx a=⟨(Lib.decDigits a.natAbs).toArray⟩):=if_neg hn
  clear hn
  rw [HSG.out,HS1.out]
  obtain ⟨W0,HW⟩:∃ W0,Hid ((w.alloc (.cells #[.int .u64 (lo (a.natAbs)),.string (bg (a.natAbs)),.bool false] 34))=W0):=⟨_,lh_ rfl⟩
  have HS:=lh_ (show w.heap.size+1=W0.heap.size by rw [← HW.out];simp)
  have z0:w.heap.size<W0.heap.size:=by rw [← HS.out];omega
  have c0_0:W0.cell? ⟨w.heap.size,0,none⟩=some (.int .u64 (lo (a.natAbs))):=by rw [← HW.out];simp [go_sem]
  have c0_1:W0.cell? ⟨w.heap.size,1,none⟩=some (.string (bg (a.natAbs))):=by rw [← HW.out];simp [go_sem]
  have c0_2:W0.cell? ⟨w.heap.size,2,none⟩=some (.bool false):=by rw [← HW.out];simp [go_sem]
  have f_0:W0.frozen? ⟨w.heap.size,0,none⟩=false:=by rw [← HW.out];simp [go_sem]
  have f_1:W0.frozen? ⟨w.heap.size,1,none⟩=false:=by rw [← HW.out];simp [go_sem]
  have f_2:W0.frozen? ⟨w.heap.size,2,none⟩=false:=by rw [← HW.out];simp [go_sem]
  have hbw:Below w.heap.size w W0:=by rw [← HW.out];exact (Below.refl _ _).alloc (Nat.le_refl _) _
  have HR:Hid (∀ w1:World,Below W0.heap.size W0 w1→w1.cell? ⟨w.heap.size,0,none⟩=some (.int .u64 (lo (a.natAbs)))∧w1.cell? ⟨w.heap.size,1,none⟩=some (.string (bg (a.natAbs)))∧w1.cell? ⟨w.heap.size,2,none⟩=some (.bool false)∧w1.frozen? ⟨w.heap.size,0,none⟩=false∧w1.frozen? ⟨w.heap.size,1,none⟩=false∧w1.frozen? ⟨w.heap.size,2,none⟩=false∧Below w.heap.size w w1):=fun w1 hb=>⟨(held W0 w1 hb _ _ z0).trans c0_0,(held W0 w1 hb _ _ z0).trans c0_1,(held W0 w1 hb _ _ z0).trans c0_2,(qc5 W0 w1 hb _ _ z0).trans f_0,(qc5 W0 w1 hb _ _ z0).trans f_1,(qc5 W0 w1 hb _ _ z0).trans f_2,grow hbw hb⟩
  have HBW:=lh_ hbw
  clear hbw
  go_enter Tryz.func141,Tryz.ntmps141
  go_wp2_with fail
  rw [HW.out]
  refine (qx6 a.natAbs _ om (lh_ (HT.out.gr HBW.out))).mono ?_
  rintro e w1 ⟨rfl,hb1⟩
  clear c0_0 c0_1 c0_2 f_0 f_1 f_2 HBW;obtain ⟨c0_0,c0_1,c0_2,f_0,f_1,f_2,hbw⟩:=HR.out w1 hb1;have HBW:=lh_ hbw;clear hbw
  go_wp2_with fail
  go_ret
  exact ⟨rfl,HBW.out⟩
theorem qM8 (a:Int) (v:Value) (w:World) (hv:Rn w v a.natAbs) (hb:tw a.natAbs≤10000000) :
  Calls Tryz.prog 143 #[.agg #[.bool (decide (a<0)),v]] w fun e w'=>e=.returned (.string (itx a))∧Below w.heap.size w w':=by
 have HR:=lh_ hv
 clear hv
 have HB0:Hid (Below w.heap.size w (w.alloc (.cells #[.bool (decide (a<0)),v] 45))):=lh_ ((Below.refl _ _).alloc (Nat.le_refl _) _)
 by_cases hn:a<0
 ·have HS1:Hid (decide (a<0)=true):=decide_eq_true hn
  have HSG:Hid (itx a=(⟨#[45]⟩:ByteArray) ++ ⟨(Lib.decDigits a.natAbs).toArray⟩):=if_pos hn
  clear hn
  rw [HSG.out]
  rw [HS1.out] at HB0 ⊢
  have hlen:¬ (9223372036854775807<1+(Lib.decDigits a.natAbs).length):=by rw [Lib.decDigits_length];have:=qg0 a.natAbs;have:=xo1 a.natAbs;omega
  go_enter Tryz.func143,Tryz.ntmps143
  go_wp2_with fail
  refine (qs4 v a.natAbs _ (HR.out.gr HB0.out) hb).mono ?_
  rintro e w2 ⟨rfl,hb2⟩
  have HB2:Hid (Gr w w2):=lh_ (Gr.trans HB0.out hb2)
  clear hb2
  go_wp2_with fail
  go_ret
  exact ⟨rfl,HB2.out⟩
 ·have HS1:Hid (decide (a<0)=false):=decide_eq_false hn
  have HSG:Hid (itx a=⟨(Lib.decDigits a.natAbs).toArray⟩):=if_neg hn
  clear hn
  rw [HSG.out]
  rw [HS1.out] at HB0 ⊢
  go_enter Tryz.func143,Tryz.ntmps143
  go_wp2_with fail
  refine (qs4 v a.natAbs _ (HR.out.gr HB0.out) hb).mono ?_
  rintro e w2 ⟨rfl,hb2⟩
  have HB2:Hid (Gr w w2):=lh_ (Gr.trans HB0.out hb2)
  clear hb2
  go_wp2_with fail
  go_ret
  exact ⟨rfl,HB2.out⟩
end
section
open Go.RowKit
attribute [local go_sem ↓] Go.wp_at_zero Go.wp_at_succ
theorem qJ1 (a:Int) (s:ByteArray) (w:World) (hs:itx a=s) (ha:wl a.natAbs≤900000) (HT:Hid (Tab w)) :
  Calls Tryz.prog 141 #[(Value.agg #[.int .u64 (lo a.natAbs),.string (bg a.natAbs),.bool (a<0)])] w fun e w'=>e=.returned (.string s)∧Below w.heap.size w w':=hs ▸ qS8 a w ha HT
theorem qY_ (a:Int) (s:ByteArray) (v:Value) (w:World) (hs:itx a=s) (hv:Rn w v a.natAbs) (hb:tw a.natAbs≤10000000) :
  Calls Tryz.prog 143 #[.agg #[.bool (decide (a<0)),v]] w fun e w'=>e=.returned (.string s)∧Below w.heap.size w w':=hs ▸ qM8 a v w hv hb
end
section
def lv (l:List UInt8):Nat:=l.foldl (fun n c=>10*n+(c.toNat - 48)) 0
theorem qw5 (l:List UInt8) (c:UInt8):lv (l ++ [c])=10*lv l+(c.toNat - 48):=by unfold lv;rw [List.foldl_append];rfl
theorem qF_ (s:ByteArray) (i:Nat) (h:i<s.size):byt s i=(s.data.toList[i]'(by simpa using h)).toNat:=by
 rw [← qF9 h]
 rfl
theorem qV1 (s:ByteArray):∀ k,k≤s.size→pv s k=lv (s.data.toList.take k)
 | 0,_=>rfl
 | k+1,h=>by
  have hk:k<s.data.toList.length:=by have e:s.data.toList.length=s.size:=Array.length_toList;omega
  rw [List.take_succ_eq_append_getElem hk,qw5,← qV1 s k om,← qF_ s k om]
  show 10*pvr s 0 k+(byt s (0+k) - 48)=10*pv s k+_
  rw [Nat.zero_add]
  rfl
theorem xH2 (s:ByteArray):pv s s.size=lv s.data.toList:=by
 rw [qV1 s s.size (Nat.le_refl _),List.take_of_length_le (by simp)]
theorem qE1 (l:List UInt8):(⟨l.toArray⟩:ByteArray).size=l.length:=by simp [ByteArray.size]
theorem xF4:∀ l:List UInt8,(∀ c ∈ l,c.toNat≤57)→lv l<10 ^ l.length:=by
 intro l
 induction h:l.length generalizing l with
 | zero=>intro _;rw [List.length_eq_zero_iff.1 h];decide
 | succ k ih =>
  intro hd
  have hne:l ≠ []:=fun e=>by rw [e] at h;simp at h
  obtain ⟨l',c,rfl⟩:∃ l' c,l=l' ++ [c]:=⟨l.dropLast,l.getLast hne,(List.dropLast_concat_getLast hne).symm⟩
  have:=ih l' (by simpa using h) (fun x hx=>hd x (List.mem_append_left _ hx))
  have:=hd c (by simp)
  rw [qw5,Nat.pow_succ]
  omega
theorem xF3 (c:UInt8) (l:List UInt8):lv (c :: l)=(c.toNat - 48)*10 ^ l.length+lv l:=by
 induction h:l.length generalizing l with
 | zero =>
  rw [List.length_eq_zero_iff.1 h]
  show 10*0+(c.toNat - 48)=(c.toNat - 48)*1+0
  omega
 | succ k ih =>
  have hne:l ≠ []:=fun e=>by rw [e] at h;simp at h
  obtain ⟨l',d,rfl⟩:∃ l' c,l=l' ++ [c]:=⟨l.dropLast,l.getLast hne,(List.dropLast_concat_getLast hne).symm⟩
  have:=ih l' (by simpa using h)
  rw [← List.cons_append,qw5,qw5,this,Nat.pow_succ]
  generalize (c.toNat - 48)=x
  rw [show x*(10 ^ k*10)=10*(x*10 ^ k) by rw [← Nat.mul_assoc,Nat.mul_comm]]
  omega
end
section
open Go.RowKit
def ineg (s:ByteArray):Bool:=Lib.hasPrefix s.data.toList [45]
def idig (s:ByteArray):ByteArray:=⟨(Lib.trimPrefix s.data.toList [45]).toArray⟩
theorem xw4 (s:ByteArray):(idig s).size≤s.size:=by
 have:=Lib.trimPrefix_le s.data.toList [45]
 unfold idig
 rw [qE1]
 exact Nat.le_trans this (Nat.le_of_eq Array.length_toList)
theorem xc9 (a:Int):(itx a).data.toList=if a<0 then 45 :: Lib.decDigits a.natAbs else Lib.decDigits a.natAbs:=by
 unfold itx
 split <;> simp
theorem qH0 (a:Int):(itx a).size=(if a<0 then 1 else 0)+Lib.nDigits a.natAbs:=by
 have h:=congrArg List.length (xc9 a)
 have e:(itx a).size=(itx a).data.toList.length:=Array.length_toList.symm
 rw [e,h]
 split
 ·rw [List.length_cons,Lib.decDigits_length];omega
 ·rw [Lib.decDigits_length];omega
end
section
open Go.RowKit
theorem xd2 (s p:ByteArray) (w:World) :
  Calls Tryz.prog 235 #[.string s,.string p] w fun e w'=>e=.returned (.tuple #[.string ⟨(Lib.trimPrefix s.data.toList p.data.toList).toArray⟩,.bool (Lib.hasPrefix s.data.toList p.data.toList)])∧w'=w:=by
 by_cases h:Lib.hasPrefix s.data.toList p.data.toList=true
 ·have h0:=h
  rw [← Lib.hasPrefix_raw,Bool.and_eq_true,decide_eq_true_eq] at h0
  obtain ⟨h1,h2⟩:=h0
  rw [Lib.trimPrefix_hit s p h1 h2,h]
  have HP:=lh_ h
  clear h h2
  go_enter Tryz.func235,Tryz.ntmps235
  go_wp2_with fail
  refine (Tryz.stringslite_HasPrefix s p w).mono ?_
  rintro e w1 ⟨rfl,rfl⟩
  rw [HP.out]
  go_wp2
  go_ret2
  exact ⟨rfl,rfl⟩
 ·have h0:Lib.hasPrefix s.data.toList p.data.toList=false:=by simpa using h
  rw [Lib.trimPrefix_miss s p (by rw [Lib.hasPrefix_raw,h0]),h0]
  have HP:=lh_ h0
  clear h h0
  go_enter Tryz.func235,Tryz.ntmps235
  go_wp2_with fail
  refine (Tryz.stringslite_HasPrefix s p w).mono ?_
  rintro e w1 ⟨rfl,rfl⟩
  rw [HP.out]
  go_wp2
  go_ret2
  exact ⟨rfl,rfl⟩
theorem qQ6 (s:ByteArray) (w:World) :
  Calls Tryz.prog 161 #[.string s,.string ⟨#[45]⟩] w fun e w'=>e=.returned (.tuple #[.string (idig s),.bool (ineg s)])∧w'=w:=by
 go_enter Tryz.func161,Tryz.ntmps161
 go_wp2_with fail
 refine (xd2 s _ w).mono ?_
 rintro e w1 ⟨rfl,rfl⟩
 go_wp2
 go_ret2
 exact ⟨rfl,rfl⟩
end
section
open Go.RowKit
attribute [local go_sem ↓] Go.wp_at_zero Go.wp_at_succ
attribute [local go_sem ↓] qb8 qa3 qc8
theorem cutm (s:ByteArray) (b:Bool) (w:World) (hb:ineg s=b) :
  Calls Tryz.prog 161 #[.string s,.string ⟨#[45]⟩] w fun e w'=>e=.returned (.tuple #[.string (idig s),.bool b])∧Below w.heap.size w w':=hb ▸ (qQ6 s w).mono fun e w' ⟨h,hw⟩=>⟨h,by rw [hw];exact Below.refl _ _⟩
theorem xp1 (s:ByteArray) (L:Nat) (hL:L=4096):pnum s<10 ^ L:=by
 unfold pnum
 split
 ·rename_i h
  obtain ⟨h1,h2,h3,h4⟩:=h
  rw [xH2]
  have:=xF4 s.data.toList (fun c hc=>by
   obtain ⟨i,hi,rfl⟩:=List.getElem_of_mem hc
   have hi':i<s.size:=by simpa using hi
   rw [← qF_ s i hi']
   exact (h4 i hi').2)
  refine Nat.lt_of_lt_of_le this (Nat.pow_le_pow_right (by decide) ?_)
  rw [Array.length_toList,hL]
  exact h1
 ·exact Nat.pow_pos (by decide)
theorem xB6 (k:Nat):(10:Nat) ^ (8*k)≤bp k:=by
 unfold bp
 rw [Nat.pow_mul]
 exact Nat.pow_le_pow_left (by decide) k
theorem xH1 (s:ByteArray) (k:Nat) (h:8*k=4096):pnum s<bp k:=Nat.lt_of_lt_of_le (xp1 s _ h) (xB6 k)
end
section
open Go.RowKit
attribute [local go_sem ↓] Go.wp_at_zero Go.wp_at_succ
theorem qC4 (a:Int) {n:Nat} {S:List UInt8} (h:(a=(n:Int))) (hd:Lib.decDigits n=S):itx a=⟨S.toArray⟩:=by
 unfold itx
 rw [if_neg om,h,Int.natAbs_natCast,hd]
end
section
open Go.RowKit
attribute [local go_sem ↓] Go.wp_at_zero Go.wp_at_succ
end
section
open Go.RowKit
theorem xD9 {s:ByteArray} (h:ineg s=true):idig s=s.extract 1 s.size:=by
 have h0:=h
 unfold ineg at h0
 rw [show ([45]:List UInt8)=(⟨#[45]⟩:ByteArray).data.toList from rfl,← Lib.hasPrefix_raw,Bool.and_eq_true,decide_eq_true_eq] at h0
 exact Lib.trimPrefix_hit s ⟨#[45]⟩ h0.1 h0.2
theorem xD_ {s:ByteArray} (h:ineg s=false):idig s=s:=by
 unfold ineg at h
 unfold idig Lib.trimPrefix
 rw [h]
 cases s;simp
end
section
open Go.RowKit
attribute [local go_sem ↓] Go.wp_at_zero Go.wp_at_succ
def Kp3 (B0 B1 B2:Nat) (W w':World):Prop:=W.heap.size≤w'.heap.size∧∀ b,b<W.heap.size→b≠B0→b≠B1→b≠B2→w'.heap[b]?=W.heap[b]?
theorem Gr.block' {W w':World} (h:Gr W w') (b:Nat) (hb:b<W.heap.size):w'.heap[b]?=W.heap[b]?:=Below.block h b hb
theorem Kp3.of {B0 B1 B2:Nat} {W w':World} (h:Gr W w'):Kp3 B0 B1 B2 W w':=⟨h.size,fun b hb _ _ _=>h.block' b hb⟩
theorem Kp3.held (B0 B1 B2:Nat) (W:World):∀ w':World,Kp3 B0 B1 B2 W w'→∀ b o,b<W.heap.size→b≠B0→b≠B1→b≠B2→w'.cell? ⟨b,o,none⟩=W.cell? ⟨b,o,none⟩:=fun w' h b o hb h0 h1 h2=>by
 unfold World.cell?; rw [h.2 b hb h0 h1 h2]
end
section
open Go.RowKit
attribute [local go_sem ↓] Go.wp_at_zero Go.wp_at_succ
attribute [local go_sem ↓] qb8 qa3 qc8
end
section
open Go.RowKit
attribute [local go_sem ↓] Go.wp_at_zero Go.wp_at_succ
theorem qB2 {b:Bool} {n:Nat} {a:Int} (h:(if b then -((n:Nat):Int) else ((n:Nat):Int))=a):a.natAbs=n:=by
 rw [← h];split <;> simp
end
section
open Go.RowKit
attribute [local go_sem ↓] Go.wp_at_zero Go.wp_at_succ
end
section
open Go.RowKit
section
variable {P:Program} {ops:Array Oper} {md:Region.Mode}
def qm4 (is:List Nat) (i j:Nat):Bool:=decide (j<i) || is.contains j
def UpTo (is:List Nat) (size i:Nat) (listed:Array Bool):Prop:=listed.size=size∧∀ j,j<size→listed.getD j true=qm4 is i j
theorem xb9 {a:Array Bool} {j:Nat} (h:j<a.size) (d e:Bool):a.getD j d=a.getD j e:=by
 simp [Array.getD,h]
theorem UpTo.off {is:List Nat} {size i:Nat} {listed:Array Bool} (h:UpTo is size i listed) (his:∀ j ∈ is,j<size) (hi:i≤size) (j:Nat) (hj:qm4 is i j=true):listed.getD j false=true:=by
 have hlt:j<size:=by
  simp only [qm4,Bool.or_eq_true,decide_eq_true_eq,List.contains_eq_mem] at hj
  rcases hj with hj|hj
  ·omega
  ·exact his j hj
 rw [xb9 (by rw [h.1];exact hlt) false true,h.2 j hlt,hj]
theorem UpTo.skip {is:List Nat} {size i:Nat} {listed:Array Bool} (h:UpTo is size i listed) (hi:is.contains i=true):UpTo is size (i+1) listed:=by
 refine ⟨h.1,fun j hj=>?_⟩
 rw [h.2 j hj]
 unfold qm4
 by_cases e:j=i
 ·subst e;rw [hi];simp
 ·rw [show decide (j<i+1)=decide (j<i) from decide_eq_decide.2 om]
theorem UpTo.set {is:List Nat} {size i:Nat} {listed:Array Bool} (h:UpTo is size i listed):UpTo is size (i+1) (listed.setIfInBounds i true):=by
 refine ⟨by simp [h.1],fun j hj=>?_⟩
 have hs:j<listed.size:=by rw [h.1];exact hj
 by_cases e:j=i
 ·subst e
  rw [Array.getD_eq_getD_getElem?,Array.getElem?_setIfInBounds_self_of_lt hs]
  simp [qm4]
 ·rw [Array.getD_eq_getD_getElem?,Array.getElem?_setIfInBounds_ne (Ne.symm e),← Array.getD_eq_getD_getElem?,h.2 j hj]
  unfold qm4
  rw [show decide (j<i+1)=decide (j<i) from decide_eq_decide.2 om]
theorem UpTo.canon {is:List Nat} {size n:Nat} {listed:Array Bool} (h:UpTo is size n listed) (his:∀ j ∈ is,j<n):listed=canon n size:=by
 apply Array.ext
 ·rw [h.1];simp [Go.Proofs.YtobojnodohjiaaaGreatDoor.canon]
 ·intro j h1 h2
  have hj:j<size:=by rw [← h.1];exact h1
  have:=h.2 j hj
  rw [Array.getD_eq_getD_getElem?,Array.getElem?_eq_getElem h1,Option.getD_some] at this
  rw [this]
  simp only [Go.Proofs.YtobojnodohjiaaaGreatDoor.canon,Array.getElem_ofFn,qm4]
  by_cases e:j<n
  ·simp [e]
  ·have:¬ j ∈ is:=fun hm=>e (his j hm)
   simp [e,this]
end
end
section
open Go.RowKit
attribute [local go_sem ↓] Go.wp_at_zero Go.wp_at_succ
theorem xt6 (a b g x y:Int) (w:World) (hg:(egcd a b).1=g) (hx:(egcd a b).2.1=x) (hy:(egcd a b).2.2=y) (ha:wl a.natAbs≤1000000000) (hb:wl b.natAbs≤1000000000) :
  Calls Tryz.prog 36 #[(Value.agg #[.int .u64 (lo a.natAbs),.string (bg a.natAbs),.bool (a<0)]),(Value.agg #[.int .u64 (lo b.natAbs),.string (bg b.natAbs),.bool (b<0)])] w fun e w'=>e=.returned (.tuple #[(Value.agg #[.int .u64 (lo g.natAbs),.string (bg g.natAbs),.bool (g<0)]),(Value.agg #[.int .u64 (lo x.natAbs),.string (bg x.natAbs),.bool (x<0)]),(Value.agg #[.int .u64 (lo y.natAbs),.string (bg y.natAbs),.bool (y<0)])])∧Below w.heap.size w w':=hg ▸ hx ▸ hy ▸ xc3 a b w ha hb
theorem qj3 {a b:Int} {M:Nat} (h1:wl a.natAbs≤M) (h2:wl b.natAbs≤M) (hM:M≤1000000000):wl (egcd a b).1.natAbs≤M+4∧wl (egcd a b).2.1.natAbs≤M+4∧wl (egcd a b).2.2.natAbs≤M+4:=by
 have hs:=qu0 a b
 have hsum:wl (5*(a.natAbs+b.natAbs)+5)≤M+4:=by
  have e1:=ql1 a.natAbs b.natAbs
  have e2:=qf1 5 (a.natAbs+b.natAbs)
  have e3:=ql1 (5*(a.natAbs+b.natAbs)) 5
  have e4:wl 5≤1:=qa6 (by decide)
  omega
 refine ⟨?_,Nat.le_trans (qa4 hs.1) hsum,Nat.le_trans (qa4 hs.2) hsum⟩
 rw [(qi9 _ a b (Nat.le_refl _)).1,Int.natAbs_natCast]
 have:=qA9 a.natAbs b.natAbs
 omega
end
end Go.Proofs.YtobojnodohjiaaaGreatDoor
