
/- roots: root, by, below, above. -/
import Derived.Test.YtaflakcemiilaaaGreatDoorHp
import Derived.Test.YtaflakcemiilaaaGreatDoorIntE
import Derived.Test.YtaflakcemiilaaaGreatDoorPJ
import Derived.Test.YtaflakcemiilaaaGreatDoorPT
import Derived.Test.YtaflakcemiilaaaGreatDoorPE
import Derived.Test.YtaflakcemiilaaaGreatDoorPP
import Derived.Lib.Strings
import Derived.Test.YtaflakcemiilaaaGreatDoorPL
import Derived.Test.YtaflakcemiilaaaGreatDoorPV
import Derived.Test.YtaflakcemiilaaaGreatDoorPR
set_option maxRecDepth 100000
set_option maxHeartbeats 16000000
set_option linter.unusedVariables false
set_option linter.unusedSimpArgs false
namespace Go.Proofs.YtaflakcemiilaaaGreatDoor
open Go.RowKit
attribute [local go_sem ↓] Go.wp_at_zero Go.wp_at_succ
attribute [local go_sem ↓] qd6 qa7 qf4
theorem zlof (bx:Bool) (kx:Nat) (fx:Nat→Nat) (mx:Nat) (a:Int) (ao_x:Option Addr) (c_x:Nat) (w:World) (HWx:Hid (Wa w (.slice ao_x kx c_x) kx fx)) (HFx:Hid (∀ i,i<kx→fx i<4294967296)) (HVx:Hid (vl fx kx=mx)) (HAx:Hid ((if bx then -((mx:Nat):Int) else ((mx:Nat):Int))=a)) (hkx:kx≤100) (hmx:wl mx≤100) :
  Calls Tryz.prog 121 #[(Value.agg #[.bool bx,(.slice ao_x kx c_x)])] w fun e w'=>e=.returned (.agg #[.int .u64 (lo a.natAbs),.string (bg a.natAbs),.bool (a<0)])∧Below w.heap.size w w':=by
 go_enter Tryz.func121,Tryz.ntmps121
 have I:=lh_ (hp0 w)
 refine kS fun K O=>?_
 refine wp_region_lit ?_
 go_wp2
 refine kF_ O (((I.out).aL (w.heap.size)).aL (w.heap.size+1)) fun Wx0 J=>?_;clear O K
 clear I;have I:=J;clear J
 generalize w.heap.size+1=gx1 at *
 have HB:=HPb I
 have HZ1:Hid ((if bx then -((mx:Nat):Int) else ((mx:Nat):Int))=a):=lh_ (HAx.out)
 have su1:wl a.natAbs≤100:=by have e:=HZ1.out;first|omega|(rw [← e];split <;> simp <;> omega)
 have lx0:=c0_ I
 refine kS fun K O=>?_
 refine pd8_ fun T Y=>?_
 iterate 4 refine tk ?_
 refine ck Tryz.call203 (fun w' hw=>xC9 _ kx fx mx w _ HVx.out om HWx.out (Gr.trans HB.out hw) HFx.out) ?_
 refine ck Tryz.call113 (fun w' hw=>qc4 bx mx a _ HZ1.out) ?_
 refine nlD Y I fun vw1 J=>?_
 clear Y T I lx0 HB
 have lx1:=c1_ J;have fx1:=f1_ J
 have r0:=Gr.refl vw1
 go_wp2
 refine kO O ?_;clear O K
 clear r0 lx1 fx1
 refine fH ((((J.out).put2 1 0 rfl).put 1 2 _ rfl).er 0) fun Wx1 I=>?_
 clear J
 refine wp_ret ?_
 try simp only [Exit.then,Exit.inBlock]
 have lx1:=c0_ I
 have r0:=Gr.refl Wx1
 exact bodyPost_ret (v:=.agg #[.int .u64 (lo a.natAbs),.string (bg a.natAbs),.bool (a<0)]) (by simp [results,Tryz.results121,go_sem,lx1 _ r0]) rfl ⟨rfl,I.out.1⟩
end Go.Proofs.YtaflakcemiilaaaGreatDoor

set_option linter.unusedVariables false
set_option linter.unusedSimpArgs false
namespace Go.Proofs.YtaflakcemiilaaaGreatDoor
open Go.RowKit
attribute [local go_sem ↓] Go.wp_at_zero Go.wp_at_succ
theorem qn9 {b:Bool} {n:Nat} {a:Int} (h:(if b then -((n:Nat):Int) else ((n:Nat):Int))=a):a.natAbs=n:=by
 rw [← h];split <;> simp
end Go.Proofs.YtaflakcemiilaaaGreatDoor

set_option maxRecDepth 100000
set_option maxHeartbeats 16000000
set_option linter.unusedVariables false
set_option linter.unusedSimpArgs false
namespace Go.Proofs.YtaflakcemiilaaaGreatDoor
section
open Go.RowKit
def itx (a:Int):ByteArray:=if a<0 then (⟨#[45]⟩:ByteArray) ++ ⟨(Lib.decDigits a.natAbs).toArray⟩ else ⟨(Lib.decDigits a.natAbs).toArray⟩
theorem qU2 (a:Int) (w:World) (ha:wl a.natAbs≤900000) (HT:Hid (Tab w)) :
  Calls Tryz.prog 135 #[(Value.agg #[.int .u64 (lo a.natAbs),.string (bg a.natAbs),.bool (a<0)])] w fun e w'=>e=.returned (.string (itx a))∧Below w.heap.size w w':=by
 by_cases hn:a<0
 ·have HS1:Hid (decide (a<0)=true):=decide_eq_true hn
  have HSG:Hid (itx a=(⟨#[45]⟩:ByteArray) ++ ⟨(Lib.decDigits a.natAbs).toArray⟩):=if_pos hn
  clear hn
  rw [HSG.out,HS1.out]
  obtain ⟨W0,HW⟩:∃ W0,Hid ((w.alloc (.cells #[.int .u64 (lo (a.natAbs)),.string (bg (a.natAbs)),.bool true] 34))=W0):=⟨_,lh_ rfl⟩
  have HS:=lh_ (show w.heap.size+1=W0.heap.size by rw [← HW.out];simp)
  have z0:w.heap.size<W0.heap.size:=by rw [← HS.out];omega
  have c0_0:W0.cell? ⟨w.heap.size,0,none⟩=some (.int .u64 (lo (a.natAbs))):=by rw [← HW.out];simp [go_sem]
  have c0_1:W0.cell? ⟨w.heap.size,1,none⟩=some (.string (bg (a.natAbs))):=by rw [← HW.out];simp [go_sem]
  have c0_2:W0.cell? ⟨w.heap.size,2,none⟩=some (.bool true):=by rw [← HW.out];simp [go_sem]
  have f_0:W0.frozen? ⟨w.heap.size,0,none⟩=false:=by rw [← HW.out];simp [go_sem]
  have f_1:W0.frozen? ⟨w.heap.size,1,none⟩=false:=by rw [← HW.out];simp [go_sem]
  have f_2:W0.frozen? ⟨w.heap.size,2,none⟩=false:=by rw [← HW.out];simp [go_sem]
  have hbw:Below w.heap.size w W0:=by rw [← HW.out];exact (Below.refl _ _).alloc (Nat.le_refl _) _
  have HR:Hid (∀ w1:World,Below W0.heap.size W0 w1→w1.cell? ⟨w.heap.size,0,none⟩=some (.int .u64 (lo (a.natAbs)))∧w1.cell? ⟨w.heap.size,1,none⟩=some (.string (bg (a.natAbs)))∧w1.cell? ⟨w.heap.size,2,none⟩=some (.bool true)∧w1.frozen? ⟨w.heap.size,0,none⟩=false∧w1.frozen? ⟨w.heap.size,1,none⟩=false∧w1.frozen? ⟨w.heap.size,2,none⟩=false∧Below w.heap.size w w1):=fun w1 hb=>⟨(held W0 w1 hb _ _ z0).trans c0_0,(held W0 w1 hb _ _ z0).trans c0_1,(held W0 w1 hb _ _ z0).trans c0_2,(qd_ W0 w1 hb _ _ z0).trans f_0,(qd_ W0 w1 hb _ _ z0).trans f_1,(qd_ W0 w1 hb _ _ z0).trans f_2,grow hbw hb⟩
  have HBW:=lh_ hbw
  clear hbw
  have hlen:¬ (9223372036854775807<1+(Lib.decDigits a.natAbs).length):=by rw [Lib.decDigits_length];have:=qh7 a.natAbs;have:=qL5 a.natAbs;omega
  go_enter Tryz.func135,Tryz.ntmps135
  go_wp2_with fail
  rw [HW.out]
  refine (qz2 a.natAbs _ om (lh_ (HT.out.gr HBW.out))).mono ?_
  rintro e w1 ⟨rfl,hb1⟩
  clear c0_0 c0_1 c0_2 f_0 f_1 f_2 HBW;obtain ⟨c0_0,c0_1,c0_2,f_0,f_1,f_2,hbw⟩:=HR.out w1 hb1;have HBW:=lh_ hbw;clear hbw
  go_wp2_with fail
  go_ret
  exact ⟨rfl,HBW.out⟩
 ·have HS1:Hid (decide (a<0)=false):=decide_eq_false hn
  have HSG:Hid (itx a=⟨(Lib.decDigits a.natAbs).toArray⟩):=if_neg hn
  clear hn
  rw [HSG.out,HS1.out]
  obtain ⟨W0,HW⟩:∃ W0,Hid ((w.alloc (.cells #[.int .u64 (lo (a.natAbs)),.string (bg (a.natAbs)),.bool false] 34))=W0):=⟨_,lh_ rfl⟩
  have HS:=lh_ (show w.heap.size+1=W0.heap.size by rw [← HW.out];simp)
  have z0:w.heap.size<W0.heap.size:=by rw [← HS.out];omega
  have c0_0:W0.cell? ⟨w.heap.size,0,none⟩=some (.int .u64 (lo (a.natAbs))):=by rw [← HW.out];simp [go_sem]
  have c0_1:W0.cell? ⟨w.heap.size,1,none⟩=some (.string (bg (a.natAbs))):=by rw [← HW.out];simp [go_sem]
  have c0_2:W0.cell? ⟨w.heap.size,2,none⟩=some (.bool false):=by rw [← HW.out];simp [go_sem]
  have f_0:W0.frozen? ⟨w.heap.size,0,none⟩=false:=by rw [← HW.out];simp [go_sem]
  have f_1:W0.frozen? ⟨w.heap.size,1,none⟩=false:=by rw [← HW.out];simp [go_sem]
  have f_2:W0.frozen? ⟨w.heap.size,2,none⟩=false:=by rw [← HW.out];simp [go_sem]
  have hbw:Below w.heap.size w W0:=by rw [← HW.out];exact (Below.refl _ _).alloc (Nat.le_refl _) _
  have HR:Hid (∀ w1:World,Below W0.heap.size W0 w1→w1.cell? ⟨w.heap.size,0,none⟩=some (.int .u64 (lo (a.natAbs)))∧w1.cell? ⟨w.heap.size,1,none⟩=some (.string (bg (a.natAbs)))∧w1.cell? ⟨w.heap.size,2,none⟩=some (.bool false)∧w1.frozen? ⟨w.heap.size,0,none⟩=false∧w1.frozen? ⟨w.heap.size,1,none⟩=false∧w1.frozen? ⟨w.heap.size,2,none⟩=false∧Below w.heap.size w w1):=fun w1 hb=>⟨(held W0 w1 hb _ _ z0).trans c0_0,(held W0 w1 hb _ _ z0).trans c0_1,(held W0 w1 hb _ _ z0).trans c0_2,(qd_ W0 w1 hb _ _ z0).trans f_0,(qd_ W0 w1 hb _ _ z0).trans f_1,(qd_ W0 w1 hb _ _ z0).trans f_2,grow hbw hb⟩
  have HBW:=lh_ hbw
  clear hbw
  go_enter Tryz.func135,Tryz.ntmps135
  go_wp2_with fail
  rw [HW.out]
  refine (qz2 a.natAbs _ om (lh_ (HT.out.gr HBW.out))).mono ?_
  rintro e w1 ⟨rfl,hb1⟩
  clear c0_0 c0_1 c0_2 f_0 f_1 f_2 HBW;obtain ⟨c0_0,c0_1,c0_2,f_0,f_1,f_2,hbw⟩:=HR.out w1 hb1;have HBW:=lh_ hbw;clear hbw
  go_wp2_with fail
  go_ret
  exact ⟨rfl,HBW.out⟩
theorem qN_ (a:Int) (v:Value) (w:World) (hv:Rn w v a.natAbs) (hb:tw a.natAbs≤10000000) :
  Calls Tryz.prog 137 #[.agg #[.bool (decide (a<0)),v]] w fun e w'=>e=.returned (.string (itx a))∧Below w.heap.size w w':=by
 have HR:=lh_ hv
 clear hv
 have HB0:Hid (Below w.heap.size w (w.alloc (.cells #[.bool (decide (a<0)),v] 45))):=lh_ ((Below.refl _ _).alloc (Nat.le_refl _) _)
 by_cases hn:a<0
 ·have HS1:Hid (decide (a<0)=true):=decide_eq_true hn
  have HSG:Hid (itx a=(⟨#[45]⟩:ByteArray) ++ ⟨(Lib.decDigits a.natAbs).toArray⟩):=if_pos hn
  clear hn
  rw [HSG.out]
  rw [HS1.out] at HB0 ⊢
  have hlen:¬ (9223372036854775807<1+(Lib.decDigits a.natAbs).length):=by rw [Lib.decDigits_length];have:=qh7 a.natAbs;have:=xo6 a.natAbs;omega
  go_enter Tryz.func137,Tryz.ntmps137
  go_wp2_with fail
  refine (qu2 v a.natAbs _ (HR.out.gr HB0.out) hb).mono ?_
  rintro e w2 ⟨rfl,hb2⟩
  have HB2:Hid (Gr w w2):=lh_ (Gr.trans HB0.out hb2)
  clear hb2
  go_wp2_with fail
  go_ret
  exact ⟨rfl,HB2.out⟩
 ·have HS1:Hid (decide (a<0)=false):=decide_eq_false hn
  have HSG:Hid (itx a=⟨(Lib.decDigits a.natAbs).toArray⟩):=if_neg hn
  clear hn
  rw [HSG.out]
  rw [HS1.out] at HB0 ⊢
  go_enter Tryz.func137,Tryz.ntmps137
  go_wp2_with fail
  refine (qu2 v a.natAbs _ (HR.out.gr HB0.out) hb).mono ?_
  rintro e w2 ⟨rfl,hb2⟩
  have HB2:Hid (Gr w w2):=lh_ (Gr.trans HB0.out hb2)
  clear hb2
  go_wp2_with fail
  go_ret
  exact ⟨rfl,HB2.out⟩
end
section
open Go.RowKit
attribute [local go_sem ↓] Go.wp_at_zero Go.wp_at_succ
theorem xj0 (a:Int) (s:ByteArray) (w:World) (hs:itx a=s) (ha:wl a.natAbs≤900000) (HT:Hid (Tab w)) :
  Calls Tryz.prog 135 #[(Value.agg #[.int .u64 (lo a.natAbs),.string (bg a.natAbs),.bool (a<0)])] w fun e w'=>e=.returned (.string s)∧Below w.heap.size w w':=hs ▸ qU2 a w ha HT
theorem qS3 (a:Int) (s:ByteArray) (v:Value) (w:World) (hs:itx a=s) (hv:Rn w v a.natAbs) (hb:tw a.natAbs≤10000000) :
  Calls Tryz.prog 137 #[.agg #[.bool (decide (a<0)),v]] w fun e w'=>e=.returned (.string s)∧Below w.heap.size w w':=hs ▸ qN_ a v w hv hb
end
end Go.Proofs.YtaflakcemiilaaaGreatDoor

set_option linter.unusedVariables false
set_option linter.unusedSimpArgs false
namespace Go.Proofs.YtaflakcemiilaaaGreatDoor
theorem qX_ (l:List UInt8):(⟨l.toArray⟩:ByteArray).size=l.length:=by simp [ByteArray.size]
end Go.Proofs.YtaflakcemiilaaaGreatDoor

set_option linter.unusedVariables false
set_option linter.unusedSimpArgs false
namespace Go.Proofs.YtaflakcemiilaaaGreatDoor
open Go.RowKit
theorem xg6 (a:Int):(itx a).data.toList=if a<0 then 45 :: Lib.decDigits a.natAbs else Lib.decDigits a.natAbs:=by
 unfold itx
 split <;> simp
theorem qI5 (a:Int):(itx a).size=(if a<0 then 1 else 0)+Lib.nDigits a.natAbs:=by
 have h:=congrArg List.length (xg6 a)
 have e:(itx a).size=(itx a).data.toList.length:=Array.length_toList.symm
 rw [e,h]
 split
 ·rw [List.length_cons,Lib.decDigits_length];omega
 ·rw [Lib.decDigits_length];omega
end Go.Proofs.YtaflakcemiilaaaGreatDoor

set_option maxRecDepth 100000
set_option maxHeartbeats 16000000
set_option linter.unusedVariables false
set_option linter.unusedSimpArgs false
namespace Go.Proofs.YtaflakcemiilaaaGreatDoor
section
open Go.RowKit
attribute [local go_sem ↓] Go.wp_at_zero Go.wp_at_succ
attribute [local go_sem ↓] qd6 qa7 qf4
theorem xs5 (q:Rat) (tx:ByteArray) (w:World) (hs_q:sz q≤100000) (HTX:Hid (itx q.num=tx)) (HW:Hid (q.den=1)) (HT:Hid (Tab w)) :
  Calls Tryz.prog 103 #[(Value.agg #[.int .u64 (lo q.num.natAbs),.string (bg q.num.natAbs),.bool (q.num<0),.int .u64 (lo (q.den - 1)),.string (bg (q.den - 1))])] w fun e w'=>e=.returned ((.string tx))∧Below w.heap.size w w':=by
 have hn_q:wl q.num.natAbs≤100000:=Nat.le_trans (qd1 q) hs_q
 have hd_q:wl (q.den)≤100000:=Nat.le_trans (qc9 q) hs_q
 go_enter Tryz.func103,Tryz.ntmps103
 have I:=lh_ (hp0 w)
 refine kS fun K O=>?_
 refine wp_region_lit ?_
 go_wp2
 refine kF_ O ((I.out).aL (w.heap.size)) fun Wx0 J=>?_;clear O K
 clear I;have I:=J;clear J
 refine wp_seq ?_
 have lx0:=c0_ I
 refine ks2_ fun K O T Y=>?_
 refine tk ?_
 refine ck Tryz.call44 (fun w' hw=>qb_ q true _ (decide_eq_true (by exact HW.out))) ?_
 refine nlS Y I fun vw1 J=>?_
 clear Y T I lx0
 go_wp2
 refine kO O ?_;clear O K
 have I:=J;clear J
 refine wp_cond_true (by rfl) ?_
 have HB:=HPb I
 have lx0:=c0_ I
 refine ks4_ fun K O T Y=>?_
 refine tk2_ ?_
 refine ck Tryz.call135 (fun w' hw=>xj0 (q.num) tx _ HTX.out om (lh_ (HT.out.gr (Gr.trans HB.out hw)))) ?_
 refine tk ?_
 refine nlS Y I fun vw2 J=>?_
 clear Y T I lx0 HB
 go_wp2
 refine kO O ?_;clear O K
 have I:=J;clear J
 refine wp_ret ?_
 try simp only [Exit.then,Exit.inBlock]
 exact bodyPost_ret (v:=.string tx) (by simp [results,Tryz.results103,go_sem]) rfl ⟨rfl,I.out.1⟩
theorem xs0 (q:Rat) (tx ty t1 tz:ByteArray) (w:World) (hs_q:sz q≤100000) (HTX:Hid (itx q.num=tx)) (HW:Hid (¬ q.den=1)) (HTY:Hid ((⟨(Lib.decDigits (q.den)).toArray⟩:ByteArray)=ty)) (HC1:Hid (tx ++ (⟨#[47]⟩:ByteArray)=t1)) (HC2:Hid (t1 ++ ty=tz)) (hl1:tx.size≤100000000) (hl2:t1.size≤100000001) (hl3:ty.size≤100000000) (HT:Hid (Tab w)) :
  Calls Tryz.prog 103 #[(Value.agg #[.int .u64 (lo q.num.natAbs),.string (bg q.num.natAbs),.bool (q.num<0),.int .u64 (lo (q.den - 1)),.string (bg (q.den - 1))])] w fun e w'=>e=.returned ((.string tz))∧Below w.heap.size w w':=by
 have hn_q:wl q.num.natAbs≤100000:=Nat.le_trans (qd1 q) hs_q
 have hd_q:wl (q.den)≤100000:=Nat.le_trans (qc9 q) hs_q
 go_enter Tryz.func103,Tryz.ntmps103
 have I:=lh_ (hp0 w)
 refine kS fun K O=>?_
 refine wp_region_lit ?_
 go_wp2
 refine kF_ O ((I.out).aL (w.heap.size)) fun Wx0 J=>?_;clear O K
 clear I;have I:=J;clear J
 refine wp_seq ?_
 have lx0:=c0_ I
 refine ks2_ fun K O T Y=>?_
 refine tk ?_
 refine ck Tryz.call44 (fun w' hw=>qb_ q false _ (decide_eq_false (by exact HW.out))) ?_
 refine nlS Y I fun vw1 J=>?_
 clear Y T I lx0
 go_wp2
 refine kO O ?_;clear O K
 have I:=J;clear J
 refine wp_cond_false (by rfl) ?_
 refine wp_skip ?_
 show Code.wp _ _ _ _ _
 have HB:=HPb I
 have hlen1:¬ (9223372036854775807<tx.size+1):=by omega
 have hcat1:tx ++ (⟨#[47]⟩:ByteArray)=t1:=HC1.out
 have hlen2:¬ (9223372036854775807<t1.size+ty.size):=by omega
 have hcat2:t1 ++ ty=tz:=HC2.out
 have lx0:=c0_ I
 refine kS fun K O=>?_
 refine xD3 fun T Y=>?_
 refine tk3_ ?_
 refine ck Tryz.call135 (fun w' hw=>xj0 (q.num) tx _ HTX.out om (lh_ (HT.out.gr (Gr.trans HB.out hw)))) ?_
 refine tk ?_
 refine ck Tryz.call109 (fun w' hw=>qf1 q om _) ?_
 refine ck Tryz.call145 (fun w' hw=>xp5 (q.den) ty _ HTY.out om (lh_ (HT.out.gr (Gr.trans HB.out hw)))) ?_
 refine tk ?_
 refine nlD Y I fun vw2 J=>?_
 clear Y T I lx0 HB
 go_wp2
 refine kF_ O ((J.out).er 0) fun Wx3 I=>?_;clear O K
 clear J
 clear hlen1 hcat1 hlen2 hcat2
 refine wp_ret ?_
 try simp only [Exit.then,Exit.inBlock]
 exact bodyPost_ret (v:=.string tz) (by simp [results,Tryz.results103,go_sem]) rfl ⟨rfl,I.out.1⟩
def ftx (q:Rat):ByteArray:=if q.den=1 then itx q.num else itx q.num ++ (⟨#[47]⟩:ByteArray) ++ ⟨(Lib.decDigits q.den).toArray⟩
theorem qX7 {a:Int} {k:Nat} (h:wl a.natAbs≤k):(itx a).size≤32*k+2:=by
 have h1:=qh7 a.natAbs
 have h2:=qL5 a.natAbs
 have h3:=qI5 a
 rw [h3]
 have:32*wl a.natAbs≤32*k:=Nat.mul_le_mul_left _ h
 split <;> omega
theorem xd4 {n k:Nat} (h:wl n≤k):(⟨(Lib.decDigits n).toArray⟩:ByteArray).size≤32*k+1:=by
 have h1:=qh7 n
 have h2:=qL5 n
 rw [qX_,Lib.decDigits_length]
 have:32*wl n≤32*k:=Nat.mul_le_mul_left _ h
 omega
theorem qI8 (a b:ByteArray):(a ++ b).size=a.size+b.size:=by simp
theorem qw3 (q:Rat) (w:World) (hs:sz q≤100000) (HT:Hid (Tab w)) :
  Calls Tryz.prog 103 #[(Value.agg #[.int .u64 (lo q.num.natAbs),.string (bg q.num.natAbs),.bool (q.num<0),.int .u64 (lo (q.den - 1)),.string (bg (q.den - 1))])] w fun e w'=>e=.returned (.string (ftx q))∧Below w.heap.size w w':=by
 unfold ftx
 by_cases h:q.den=1
 ·rw [if_pos h]
  exact xs5 q _ w hs (lh_ rfl) (lh_ h) HT
 ·rw [if_neg h]
  have h1:=qX7 (Nat.le_trans (qd1 q) hs)
  have h2:=xd4 (Nat.le_trans (qc9 q) hs)
  exact xs0 q _ _ _ _ w hs (lh_ rfl) (lh_ h) (lh_ rfl) (lh_ rfl) (lh_ rfl) om (by rw [qI8];have:(⟨#[47]⟩:ByteArray).size=1:=rfl;omega) om HT
theorem xs9 (q:Rat) (tx:ByteArray) (va1 va2:Value) (w:World) (HTX:Hid (itx q.num=tx)) (hs_q:rz q≤1000000) (HW:Hid (q.den=1)) (bx21:Rn w va1 q.num.natAbs) (bx22:Rn w va2 (q.den - 1)) :
  Calls Tryz.prog 104 #[(Value.agg #[.bool (decide (q.num<0)),va1,va2])] w fun e w'=>e=.returned ((.string tx))∧Below w.heap.size w w':=by
 have hn_q:tw q.num.natAbs≤1000000:=Nat.le_trans (qh5 q) hs_q
 have hd_q:tw (q.den)≤1000000:=Nat.le_trans (qf0 q) hs_q
 obtain ⟨ao_va1,n_va1,c_va1,rfl⟩:=Rn.sl bx21
 obtain ⟨ao_va2,n_va2,c_va2,rfl⟩:=Rn.sl bx22
 go_enter Tryz.func104,Tryz.ntmps104
 have I:=lh_ (hp0 w)
 replace I:=lh_ ((I.out.ar bx21).ar bx22)
 simp only [lF,lG] at I
 clear bx21 bx22
 refine kS fun K O=>?_
 refine wp_region_lit ?_
 go_wp2
 refine kF_ O ((I.out).aL (w.heap.size)) fun Wx0 J=>?_;clear O K
 clear I;have I:=J;clear J
 refine wp_seq ?_
 have hlz:((n_va2:Int) == 0)=true:=by have hl:=Rn.len (I.out.rn 1 rfl);have h9:=HW.out;rw [hl,h9,qk4];rfl
 have lx23:=c2_ I
 refine ks4_ fun K O T Y=>?_
 iterate 4 refine tk ?_
 refine nlS Y I fun vw1 J=>?_
 clear Y T I lx23
 go_wp2
 refine kO O ?_;clear O K
 have I:=J;clear J
 clear hlz
 refine wp_cond_true (by rfl) ?_
 have lx23:=c2_ I
 refine ks4_ fun K O T Y=>?_
 refine tk2_ ?_
 refine ck Tryz.call137 (fun w' hw=>qS3 (q.num) tx _ _ HTX.out (I.out.r 0 rfl hw) om) ?_
 refine tk ?_
 refine nlS Y I fun vw2 J=>?_
 clear Y T I lx23
 go_wp2
 refine kO O ?_;clear O K
 have I:=J;clear J
 refine wp_ret ?_
 try simp only [Exit.then,Exit.inBlock]
 exact bodyPost_ret (v:=.string tx) (by simp [results,Tryz.results104,go_sem]) rfl ⟨rfl,I.out.1⟩
theorem xs6 (q:Rat) (tx ty t1 tz:ByteArray) (va1 va2:Value) (w:World) (HTX:Hid (itx q.num=tx)) (hs_q:rz q≤1000000) (HW:Hid (¬ q.den=1)) (HTY:Hid ((⟨(Lib.decDigits (q.den)).toArray⟩:ByteArray)=ty)) (HC1:Hid (tx ++ (⟨#[47]⟩:ByteArray)=t1)) (HC2:Hid (t1 ++ ty=tz)) (hl1:tx.size≤100000000) (hl2:t1.size≤100000001) (hl3:ty.size≤100000000) (bx21:Rn w va1 q.num.natAbs) (bx22:Rn w va2 (q.den - 1)) :
  Calls Tryz.prog 104 #[(Value.agg #[.bool (decide (q.num<0)),va1,va2])] w fun e w'=>e=.returned ((.string tz))∧Below w.heap.size w w':=by
 have hn_q:tw q.num.natAbs≤1000000:=Nat.le_trans (qh5 q) hs_q
 have hd_q:tw (q.den)≤1000000:=Nat.le_trans (qf0 q) hs_q
 obtain ⟨ao_va1,n_va1,c_va1,rfl⟩:=Rn.sl bx21
 obtain ⟨ao_va2,n_va2,c_va2,rfl⟩:=Rn.sl bx22
 go_enter Tryz.func104,Tryz.ntmps104
 have I:=lh_ (hp0 w)
 replace I:=lh_ ((I.out.ar bx21).ar bx22)
 simp only [lF,lG] at I
 clear bx21 bx22
 refine kS fun K O=>?_
 refine wp_region_lit ?_
 go_wp2
 refine kF_ O ((I.out).aL (w.heap.size)) fun Wx0 J=>?_;clear O K
 clear I;have I:=J;clear J
 refine wp_seq ?_
 have hlz:((n_va2:Int) == 0)=false:=by have hl:=Rn.len (I.out.rn 1 rfl);have h9:=HW.out;have hp:=q.den_pos;have ht:0<tw (q.den - 1):=qJ5 om;have h8:¬ (n_va2:Int)=0:=om;simpa using h8
 have lx23:=c2_ I
 refine ks4_ fun K O T Y=>?_
 iterate 4 refine tk ?_
 refine nlS Y I fun vw1 J=>?_
 clear Y T I lx23
 go_wp2
 refine kO O ?_;clear O K
 have I:=J;clear J
 clear hlz
 refine wp_cond_false (by rfl) ?_
 refine wp_skip ?_
 show Code.wp _ _ _ _ _
 have hlen1:¬ (9223372036854775807<tx.size+1):=by omega
 have hcat1:tx ++ (⟨#[47]⟩:ByteArray)=t1:=HC1.out
 have HZ1:Hid (q.den=(q).den):=lh_ (rfl)
 have su1:tw (q.den)≤1000000:=by exact Nat.le_trans (qf0 _) om
 have hlen2:¬ (9223372036854775807<t1.size+ty.size):=by omega
 have hcat2:t1 ++ ty=tz:=HC2.out
 have lx23:=c2_ I
 refine kS fun K O=>?_
 have HG0:Hid (Gr vw1 vw1):=lh_ (Gr.refl _)
 refine xG1 fun T Y=>?_
 refine tk3_ ?_
 refine ck Tryz.call137 (fun w' hw=>qS3 (q.num) tx _ _ HTX.out (I.out.r 0 rfl (HG0.out.trans hw)) om) ?_
 refine tk ?_
 refine qa0 rfl (by rfl) Tryz.call143 (by rfl) (fun w' hw=>(ql2 q (q.den) _ _ _ HZ1.out om (I.out.r 0 rfl (HG0.out.trans hw)) (I.out.r 1 rfl (HG0.out.trans hw))).mono ?_)
 rintro e vv25 ⟨⟨rv1,rfl,bx25⟩,hg0⟩
 obtain ⟨ao1,nn1,cc1,rfl⟩:=Rn.sl bx25
 refine ⟨_,rfl,hg0,?_⟩
 replace hg0:=Gr.trans hw hg0;clear hw
 replace HG0:=lh_ (HG0.out.trans hg0)
 have HGS:=lh_ hg0;clear hg0
 clear HGS
 have RN25:=lh_ bx25;clear bx25
 clear lx23;have lx23:=fun w' (h:Gr _ w')=>c2_ I w' (HG0.out.trans h)
 simp only [Act.put,lA,lB,lC]
 refine ck Tryz.call166 (fun w' hw=>xz0 _ (q.den) ty _ HTY.out (RN25.out.gr hw) om) ?_
 refine tk ?_
 refine qa1 (Y.out _ _ ?_)
 intro G vw2 hg hf
 simp only [puts,Act.put,lA,lB,lC,lD,lE,↓reduceIte,Nat.reduceEqDiff]
 have J:=lh_ ((I.out.gr (HG0.out.trans hg)).ar (RN25.out.gr hg))
 simp only [zq1_,zq2_,zq3_,zq4_,lF,lG] at J
 clear Y T I hg hf HG0 RN25 lx23
 go_wp2
 refine kF_ O (((((J.out).er 3).er 2).er 1).er 0) fun Wx3 I=>?_;clear O K
 clear J
 clear hlen1 hcat1 hlen2 hcat2
 refine wp_ret ?_
 try simp only [Exit.then,Exit.inBlock]
 exact bodyPost_ret (v:=.string tz) (by simp [results,Tryz.results104,go_sem]) rfl ⟨rfl,I.out.1⟩
theorem qL6 {a:Int} {k:Nat} (h:tw a.natAbs≤k):(itx a).size≤14*k+2:=by
 have h1:=qh7 a.natAbs
 have h2:=xo6 a.natAbs
 have h3:=qI5 a
 rw [h3]
 have:14*tw a.natAbs≤14*k:=Nat.mul_le_mul_left _ h
 split <;> omega
theorem qV6 {n k:Nat} (h:tw n≤k):(⟨(Lib.decDigits n).toArray⟩:ByteArray).size≤14*k+1:=by
 have h1:=qh7 n
 have h2:=xo6 n
 rw [qX_,Lib.decDigits_length]
 have:14*tw n≤14*k:=Nat.mul_le_mul_left _ h
 omega
theorem qR6 (q:Rat) (va1 va2:Value) (w:World) (hs:rz q≤1000000) (h1:Rn w va1 q.num.natAbs) (h2:Rn w va2 (q.den - 1)) :
  Calls Tryz.prog 104 #[.agg #[.bool (decide (q.num<0)),va1,va2]] w fun e w'=>e=.returned (.string (ftx q))∧Below w.heap.size w w':=by
 unfold ftx
 by_cases h:q.den=1
 ·rw [if_pos h]
  exact xs9 q _ va1 va2 w (lh_ rfl) hs (lh_ h) h1 h2
 ·rw [if_neg h]
  have e1:=qL6 (Nat.le_trans (qh5 q) hs)
  have e2:=qV6 (Nat.le_trans (qf0 q) hs)
  exact xs6 q _ _ _ _ va1 va2 w (lh_ rfl) hs (lh_ h) (lh_ rfl) (lh_ rfl) (lh_ rfl) om (by rw [qI8];have:(⟨#[47]⟩:ByteArray).size=1:=rfl;omega) om h1 h2
end
section
open Go.RowKit
attribute [local go_sem ↓] Go.wp_at_zero Go.wp_at_succ
attribute [local go_sem ↓] qd6 qa7 qf4
end
section
open Go.RowKit
attribute [local go_sem ↓] Go.wp_at_zero Go.wp_at_succ
end
end Go.Proofs.YtaflakcemiilaaaGreatDoor

set_option maxRecDepth 100000
set_option maxHeartbeats 16000000
set_option linter.unusedVariables false
set_option linter.unusedSimpArgs false
namespace Go.Proofs.YtaflakcemiilaaaGreatDoor
open Go.RowKit
attribute [local go_sem ↓] Go.wp_at_zero Go.wp_at_succ
attribute [local go_sem ↓] qd6 qa7 qf4
attribute [local go_sem] Instr.field asAgg
theorem qU8 (bbxn:Bool) (kxn kxd:Nat) (ao_xn:Option Addr) (c_xn:Nat) (ao_xd:Option Addr) (c_xd:Nat) (w:World)  :
  Calls Tryz.prog 123 #[(Value.agg #[.bool bbxn,(.slice ao_xn kxn c_xn),(.slice ao_xd kxd c_xd)])] w fun e w'=>e=.returned ((.agg #[.bool false,.slice ao_xd kxd c_xd]))∧Below w.heap.size w w':=by
 go_enter Tryz.func123,Tryz.ntmps123
 have I:=lh_ (hp0 w)
 refine kS fun K O=>?_
 refine wp_region_lit ?_
 go_wp2
 refine kF_ O (((I.out).aL (w.heap.size)).aL (w.heap.size+1)) fun Wx0 J=>?_;clear O K
 clear I;have I:=J;clear J
 generalize w.heap.size+1=gx1 at *
 have lx0:=c0_ I
 refine ks3_ fun K O T Y=>?_
 refine tk3_ ?_
 refine nlS Y I fun vw1 J=>?_
 clear Y T I lx0
 have lx1:=c1_ J;have fx1:=f1_ J
 have r0:=Gr.refl vw1
 go_wp2
 refine kO O ?_;clear O K
 clear r0 lx1 fx1
 refine fH (((J.out).put2 1 0 rfl).er 0) fun Wx1 I=>?_
 clear J
 refine wp_ret ?_
 try simp only [Exit.then,Exit.inBlock]
 have lx1:=c0_ I
 have r0:=Gr.refl Wx1
 exact bodyPost_ret (v:=.agg #[.bool false,(.slice ao_xd kxd c_xd)]) (by simp [results,Tryz.results123,go_sem,lx1 _ r0]) rfl ⟨rfl,I.out.1⟩
theorem xa5 (b:Bool) (u v:Value) {ao:Option Addr} {k c:Nat} {ao':Option Addr} {k' c':Nat} (w:World) (hu:u=.slice ao k c:=by rfl) (hv:v=.slice ao' k' c':=by rfl) :
  Calls Tryz.prog 123 #[.agg #[.bool b,u,v]] w fun e w'=>e=.returned (.agg #[.bool false,v])∧Below w.heap.size w w':=by
 subst hu hv
 exact qU8 b k k' ao c ao' c' w
theorem qj8 (bbxn:Bool) (kxn:Nat) (fxn:Nat→Nat) (mxn:Nat) (ixn:Int) (kxd:Nat) (fxd:Nat→Nat) (mxd:Nat) (q:Rat) (ao_xn:Option Addr) (c_xn:Nat) (ao_xd:Option Addr) (c_xd:Nat) (w:World) (HWxn:Hid (Wa w (.slice ao_xn kxn c_xn) kxn fxn)) (HFxn:Hid (∀ i,i<kxn→fxn i<4294967296)) (HVxn:Hid (vl fxn kxn=mxn)) (HAxn:Hid ((if bbxn then -((mxn:Nat):Int) else ((mxn:Nat):Int))=ixn)) (HWxd:Hid (Wa w (.slice ao_xd kxd c_xd) kxd fxd)) (HFxd:Hid (∀ i,i<kxd→fxd i<4294967296)) (HVxd:Hid (vl fxd kxd=mxd)) (HQx:Hid (mkRat ixn (mxd+1)=q)) (hkn:kxn≤100) (hmn:wl mxn≤100) (hkd:kxd≤100) (hmd:wl mxd≤100) :
  Calls Tryz.prog 36 #[(Value.agg #[.bool bbxn,(.slice ao_xn kxn c_xn),(.slice ao_xd kxd c_xd)])] w fun e w'=>e=.returned (.agg #[.int .u64 (lo q.num.natAbs),.string (bg q.num.natAbs),.bool (q.num<0),.int .u64 (lo (q.den - 1)),.string (bg (q.den - 1))])∧Below w.heap.size w w':=by
 have hin_:wl (Int.natAbs ixn)≤100:=by rw [qn9 HAxn.out];exact hmn
 have hmi:wl (Int.natAbs (mxd:Int))≤100:=by rw [Int.natAbs_natCast];exact hmd
 have hmt:tw (Int.natAbs (mxd:Int))≤300:=by rw [Int.natAbs_natCast];have:=qE0 mxd;omega
 go_enter Tryz.func36,Tryz.ntmps36
 have I:=lh_ (hp0 w)
 refine kS fun K O=>?_
 refine wp_region_lit ?_
 go_wp2
 refine kF_ O (((I.out).aL (w.heap.size)).aL (w.heap.size+1)) fun Wx0 J=>?_;clear O K
 clear I;have I:=J;clear J
 generalize w.heap.size+1=gx1 at *
 have HB:=HPb I
 have su_0_1:wl 1≤1:=qa4.2 (by decide +kernel)
 obtain ⟨u1,HZ1⟩:∃ z,Hid ((Int.natAbs ((mxd:Int)))+(1)=z):=⟨_,lh_ rfl⟩
 have su1:wl u1≤101:=by rw [← HZ1.out];have:=qo3 (Int.natAbs ((mxd:Int))) (1);omega
 have HZ2:Hid (mkRat ixn u1=q):=lh_ (by rw [← HQx.out];simp only [← HZ1.out];rfl)
 have su2:sz q≤101:=by have e:=HZ2.out;first|omega|(rw [← e];exact qe8 (k:=101) om om (by decide))
 have lx0:=c0_ I
 refine kS fun K O=>?_
 refine qa2 14 [13] [12] (fun _=>3) (fun _=>.cells #[.int .u64 0,.string ⟨#[]⟩,.bool false,.int .u64 0,.string ⟨#[]⟩] 36) [(true,0),(true,1),(true,3),(true,2),(true,4),(true,5),(true,6),(true,7),(true,8),(true,9),(true,10),(true,11),(true,12)] (by kernel_rfl) (by kernel_rfl) (by intro i hi;simp only [List.mem_cons,List.not_mem_nil,or_false] at hi;rcases hi with rfl <;> exact ⟨_,rfl,rfl,rfl,by simp,fun ρ w=>by kernel_rfl⟩) (by intro i hi;simp only [List.mem_cons,List.not_mem_nil,or_false] at hi;rcases hi with rfl <;> exact ⟨_,rfl,qb9⟩) (fun _ _ _ _ _ h=>h) (fun T Y=>?_)
 refine tk3_ ?_
 refine ck Tryz.call121 (fun w' hw=>zlof bbxn kxn fxn mxn ixn ao_xn c_xn w' (lh_ (HWxn.out.gr (Gr.trans HB.out hw))) HFxn HVxn HAxn om om) ?_
 refine ck Tryz.call123 (fun w' hw=>xa5 bbxn (.slice ao_xn kxn c_xn) (.slice ao_xd kxd c_xd) _) ?_
 refine ck Tryz.call121 (fun w' hw=>zlof false kxd fxd mxd (mxd:Int) ao_xd c_xd w' (lh_ (HWxd.out.gr (Gr.trans HB.out hw))) HFxd HVxd (lh_ rfl) om om) ?_
 refine ck Tryz.call114 (fun w' hw=>qj4 ((mxd:Int)) _) ?_
 refine ck Tryz.call124 (fun w' hw=>nzof 1 _ (by decide)) ?_
 refine ck Tryz.call122 (fun w' hw=>xr1 (Int.natAbs ((mxd:Int))) (1) u1 _ HZ1.out om om) ?_
 refine ck Tryz.call116 (fun w' hw=>qk2 ixn u1 q _ (lh_ HZ2.out) (by simp only [← HZ1.out];omega) om om) ?_
 refine tk3_ ?_
 refine qa1 (Y.out _ _ ?_)
 intro G vw1 hg hf
 simp only [puts,Act.put,lA,lB,lC,lD,lE,↓reduceIte,Nat.reduceEqDiff]
 have J:=lh_ (I.out.fr hg hf (zs:=[(#[.int .u64 0,.string ⟨#[]⟩,.bool false,.int .u64 0,.string ⟨#[]⟩],36)]) rfl (by decide) (by decide))
 simp only [zq1_,zq2_,zq3_,zq4_,lF,lG] at J
 clear Y T I hg hf lx0 HB
 generalize G 13=gx3 at *
 have lx3:=c2_ J;have fx3:=f2_ J
 have r0:=Gr.refl vw1
 go_wp2
 refine kO O ?_;clear O K
 clear r0 lx3 fx3
 refine fH (((((J.out).put2 2 0 rfl).put2 2 2 rfl).put 2 4 _ rfl).er 0) fun Wx1 I=>?_
 clear J
 have lx3:=c1_ I
 refine ks1_ fun K O T Y=>?_
 refine tk ?_
 refine nlS Y I fun vw2 J=>?_
 clear Y T I lx3
 have lx1:=c0_ J;have fx1:=f0_ J
 have r0:=Gr.refl vw2
 go_wp2
 refine kO O ?_;clear O K
 clear r0 lx1 fx1
 refine fH (((((J.out).put2 0 0 rfl).put2 0 2 rfl).put 0 4 _ rfl).er 1) fun Wx2 I=>?_
 clear J
 refine wp_ret ?_
 try simp only [Exit.then,Exit.inBlock]
 have lx1:=c0_ I
 have r0:=Gr.refl Wx2
 exact bodyPost_ret (v:=.agg #[.int .u64 (lo q.num.natAbs),.string (bg q.num.natAbs),.bool (q.num<0),.int .u64 (lo (q.den - 1)),.string (bg (q.den - 1))]) (by simp [results,Tryz.results36,go_sem,lx1 _ r0]) rfl ⟨rfl,I.out.1⟩
theorem qi0 (q:Rat) (va1 va2:Value) (w:World) (hs:sz q≤100000) (hr:rz q≤1000000) (bx21:Rn w va1 q.num.natAbs) (bx22:Rn w va2 (q.den - 1)) (HT:Hid (Tab w)) :
  Calls Tryz.prog 28 #[(Value.agg #[.int .u64 (lo q.num.natAbs),.string (bg q.num.natAbs),.bool (q.num<0),.int .u64 (lo (q.den - 1)),.string (bg (q.den - 1))]),(Value.agg #[.bool (decide (q.num<0)),va1,va2])] w fun e w'=>e=.returned ((.bool true))∧Below w.heap.size w w':=by
 obtain ⟨ao_va1,n_va1,c_va1,rfl⟩:=Rn.sl bx21
 obtain ⟨ao_va2,n_va2,c_va2,rfl⟩:=Rn.sl bx22
 go_enter Tryz.func28,Tryz.ntmps28
 have I:=lh_ (hp0 w)
 replace I:=lh_ ((I.out.ar bx21).ar bx22)
 simp only [lF,lG] at I
 clear bx21 bx22
 refine kS fun K O=>?_
 refine wp_region_lit ?_
 go_wp2
 refine kF_ O (((I.out).aL (w.heap.size)).aL (w.heap.size+1)) fun Wx0 J=>?_;clear O K
 clear I;have I:=J;clear J
 generalize w.heap.size+1=gx24 at *
 have HB:=HPb I
 have hse:((ftx q).toList == (ftx q).toList)=true:=by simp
 have lx23:=c2_ I
 have lx24:=c3_ I
 refine kS fun K O=>?_
 refine xD1 fun T Y=>?_
 refine tk2_ ?_
 refine ck Tryz.call103 (fun w' hw=>qw3 q _ om (lh_ (HT.out.gr (Gr.trans HB.out hw)))) ?_
 refine ck Tryz.call104 (fun w' hw=>qR6 q _ _ _ om (I.out.r 0 rfl hw) (I.out.r 1 rfl hw)) ?_
 refine tk ?_
 refine nlD Y I fun vw1 J=>?_
 clear Y T I lx23 lx24 HB
 go_wp2
 refine kF_ O (((((J.out).er 3).er 2).er 1).er 0) fun Wx1 I=>?_;clear O K
 clear J
 clear hse
 refine wp_ret ?_
 try simp only [Exit.then,Exit.inBlock]
 exact bodyPost_ret (v:=.bool true) (by simp [results,Tryz.results28,go_sem]) rfl ⟨rfl,I.out.1⟩
end Go.Proofs.YtaflakcemiilaaaGreatDoor

set_option linter.unusedVariables false
set_option linter.unusedSimpArgs false
namespace Go.Proofs.YtaflakcemiilaaaGreatDoor
open Go.RowKit
attribute [local go_sem ↓] Go.wp_at_zero Go.wp_at_succ
theorem qf6 {i:Int} {m k:Nat} (h1:wl i.natAbs≤k) (h2:wl m≤k):sz (mkRat i (m+1))≤k+1:=by
 have h3:=qo3 m 1
 have h4:wl 1≤1:=qe5 (by decide)
 have h5:wl (m+1)≤k+1:=by
  rcases Nat.eq_zero_or_pos m with h|h
  ·subst h;exact Nat.le_trans (qe5 (by decide)) om
  ·have:=qo_ h
   omega
 exact qe8 om h5 om
theorem qh1 {i:Int} {m k K:Nat} (h1:wl i.natAbs≤k) (h2:wl m≤k) (h:3*k+3≤K):rz (mkRat i (m+1))≤K:=by
 have h3:=qf6 h1 h2
 have h4:=qE0 i.natAbs
 have h5:=qE0 (m+1)
 have h6:wl (m+1)≤k+1:=by
  have:=qo3 m 1
  have h4:wl 1≤1:=qe5 (by decide)
  rcases Nat.eq_zero_or_pos m with h|h
  ·subst h;exact Nat.le_trans (qe5 (by decide)) om
  ·have:=qo_ h
   omega
 exact qy9 om om om
theorem qp1 {b:Rat} (h:b≠0):¬ sgQ b=0:=by
 unfold sgQ;rw [if_neg h];split <;> decide
theorem xp4 {a b:Rat} (h:a≠b):¬ sgQ (a - b)=0:=qp1 (fun e=>h (by have:=Rat.sub_add_cancel (a:=a) (b:=b);rw [e,Rat.zero_add] at this;exact this.symm))
end Go.Proofs.YtaflakcemiilaaaGreatDoor

set_option linter.unusedVariables false
set_option linter.unusedSimpArgs false
namespace Go.Proofs.YtaflakcemiilaaaGreatDoor
open Go.RowKit
attribute [local go_sem ↓] Go.wp_at_zero Go.wp_at_succ
theorem qg1 (a:Rat):(a<0∧sgQ a = -1)∨(a=0∧sgQ a=0)∨(0<a∧sgQ a=1):=by
 by_cases h0:a=0
 ·subst h0;exact .inr (.inl ⟨rfl,rfl⟩)
 ·by_cases h:a<0
  ·exact .inl ⟨h,qf5 h⟩
  ·have:0<a:=Rat.lt_of_le_of_ne (Rat.not_lt.1 h) (fun e=>h0 e.symm)
   exact .inr (.inr ⟨this,qh9 this⟩)
theorem xv5 (f:Int):mkRat f 1=(f:Rat):=(Rat.mk_eq_mkRat f 1 (by decide) (by simp)).symm
end Go.Proofs.YtaflakcemiilaaaGreatDoor

set_option linter.unusedVariables false
set_option linter.unusedSimpArgs false
namespace Go.Proofs.YtaflakcemiilaaaGreatDoor
open Go.RowKit
def tq (k:Nat):Rat:=(((2 ^ k:Nat):Int):Rat)
def hq (k:Nat):Rat:=(1 / 2:Rat) ^ k
theorem qx4 (k:Nat):(0:Rat)<tq k:=Rat.intCast_pos.2 (by have:=Nat.pow_pos (n:=k) (show 0<2 by decide);omega)
theorem qy2 (k j:Nat):tq (k+j)=tq k*tq j:=by
 unfold tq;rw [Nat.pow_add,Int.natCast_mul,Rat.intCast_mul]
theorem xn_ (k:Nat):(((2 ^ k*2 ^ k:Nat):Int):Rat)=tq k*tq k:=by
 unfold tq;rw [Int.natCast_mul,Rat.intCast_mul]
theorem qs2 (k:Nat):hq k*tq k=1:=by
 unfold hq
 induction k with
 | zero=>unfold tq;decide +kernel
 | succ k ih =>
  rw [Rat.pow_succ,qy2 k 1]
  have e:tq 1=2:=by unfold tq;decide +kernel
  rw [e]
  generalize (1 / 2:Rat) ^ k=x at *
  generalize tq k=y at *
  grind
theorem qm0 (k:Nat):(0:Rat)<hq k:=Rat.pow_pos (by decide +kernel)
theorem xp6 (k:Nat):hq k≠0:=fun e=>by have:=qm0 k;rw [e] at this;exact Rat.lt_irrefl this
theorem xj6 {a b:Rat} {k:Nat} (h:a*tq k=b*tq k):a=b:=by
 have h1:=qs2 k
 generalize tq k=y at *
 generalize hq k=x at *
 grind
theorem qB3 {a b:Rat} {k:Nat} (h:a*tq k≤b*tq k):a≤b:=Rat.le_of_mul_le_mul_right h (qx4 k)
theorem xg1 {a b:Rat} (k:Nat) (h:a<b):a*tq k<b*tq k:=Rat.mul_lt_mul_of_pos_right h (qx4 k)
theorem qL0 {x y:Rat} (hx:0≤x) (hy:0≤y) (h:x*x≤y*y):x≤y:=by
 rcases (show x≤y∨y<x by grind) with c|c
 ·exact c
 ·have h1:0<x - y:=by grind
  have h2:0<x+y:=by grind
  have:=Rat.mul_pos h1 h2
  grind
theorem qH2 {x y:Rat} (hx:0≤x) (hy:0≤y) (h:x*x<y*y):x<y:=by
 rcases (show x<y∨y≤x by grind) with c|c
 ·exact c
 ·have h1:0≤x - y:=by grind
  have h2:0≤x+y:=by grind
  have:=Rat.mul_nonneg h1 h2
  grind
theorem qR7 {x y:Rat} (hx:0≤x) (h:x≤y):x*x≤y*y:=by
 have h1:0≤y - x:=by grind
 have h2:0≤x+y:=by grind
 have:=Rat.mul_nonneg h1 h2
 grind
theorem qb7 (x:Rat):0≤x*x:=by
 rcases (show 0≤x∨0 ≤ -x by grind) with h|h
 ·exact Rat.mul_nonneg h h
 ·have:=Rat.mul_nonneg h h
  grind
def rbn (a:Rat) (k:Nat):Nat:=rt (Int.natAbs ((a*(((2 ^ k*2 ^ k:Nat):Int):Rat)).floor))
def rlo (a:Rat) (k:Nat):Rat:=mkRat ((rbn a k:Nat):Int) (2 ^ k)
def rhi (a:Rat) (k:Nat):Rat:=if rlo a k*rlo a k=a then rlo a k else mkRat ((rbn a k+1:Nat):Int) (2 ^ k)
theorem xx6 (n:Int) (k:Nat):mkRat n (2 ^ k)*tq k=(n:Rat):=by
 unfold tq
 rw [Rat.mkRat_eq_div]
 exact Rat.div_mul_cancel (fun e=>by have:=qx4 k;unfold tq at this;rw [Rat.intCast_natCast,e] at this;exact Rat.lt_irrefl this)
theorem xj5 {a:Rat} (h:0≤a) (k:Nat):(((rbn a k:Nat):Int):Rat)*(((rbn a k:Nat):Int):Rat)≤a*(tq k*tq k)∧a*(tq k*tq k)<((((rbn a k:Nat):Int):Rat)+1)*((((rbn a k:Nat):Int):Rat)+1):=by
 unfold rbn
 rw [xn_]
 have hx:0≤a*(tq k*tq k):=Rat.mul_nonneg h (qb7 _)
 generalize a*(tq k*tq k)=x at *
 have hf:0≤x.floor:=Rat.le_floor_iff.2 hx
 have h1:=Rat.floor_le x
 have h2:=Rat.lt_floor_add_one x
 rw [Rat.intCast_add] at h2
 obtain ⟨f,hf2⟩:∃ f:Nat,x.floor=(f:Int):=⟨x.floor.toNat,by omega⟩
 rw [hf2] at h1 h2 ⊢
 rw [Int.natAbs_natCast]
 have h3:=qQ7 f
 have h4:=qY8 f
 generalize rt f=n at *
 have h5:(((n*n:Nat):Int):Rat)≤((f:Int):Rat):=Rat.intCast_le_intCast.2 om
 have h6:(((f+1:Nat):Int):Rat)≤((((n+1)*(n+1):Nat):Int):Rat):=Rat.intCast_le_intCast.2 om
 have h5':(((n:Nat):Int):Rat)*(((n:Nat):Int):Rat)≤((f:Int):Rat):=by rwa [Int.natCast_mul,Rat.intCast_mul] at h5
 have h6':((f:Int):Rat)+1≤((((n:Nat):Int):Rat)+1)*((((n:Nat):Int):Rat)+1):=by
  rw [Int.natCast_mul,Rat.intCast_mul,Int.natCast_add,Int.natCast_add,Rat.intCast_add,Rat.intCast_add] at h6
  exact h6
 exact ⟨Rat.le_trans h5' h1,by have h7:x<((f:Int):Rat)+1:=h2;grind⟩
theorem qh3 (a:Rat) (k:Nat):rlo a k*tq k=(((rbn a k:Nat):Int):Rat):=xx6 _ _
theorem qS2 (n:Nat):(0:Rat)≤(((n:Nat):Int):Rat):=by
 have:(((0:Int)):Rat)≤(((n:Nat):Int):Rat):=Rat.intCast_le_intCast.2 om
 exact this
theorem qk8 (a:Rat) (k:Nat):0≤rlo a k:=qB3 (k:=k) (by rw [qh3,Rat.zero_mul];exact qS2 _)
theorem qm1 {a:Rat} (h:0≤a) (k:Nat):rlo a k*rlo a k≤a:=by
 refine qB3 (k:=k) (qB3 (k:=k) ?_)
 have h1:=(xj5 h k).1
 rw [← qh3] at h1
 generalize rlo a k=l at *
 generalize tq k=t at *
 grind
theorem qH9 {a:Rat} (h:0≤a) (k:Nat):a<(rlo a k+hq k)*(rlo a k+hq k):=by
 have h1:=(xj5 h k).2
 rw [← qh3,← qs2 k] at h1
 have h2:a*(tq k*tq k)<(rlo a k+hq k)*(rlo a k+hq k)*(tq k*tq k):=by grind
 have h3:0<tq k*tq k:=Rat.mul_pos (qx4 k) (qx4 k)
 exact Rat.lt_of_mul_lt_mul_right h2 (Rat.le_of_lt h3)
theorem qP0 {a c:Rat} {k:Nat} {m:Int} (h:0≤a) (hc:c*tq k=(m:Rat)) (h2:c*c≤a):c≤rlo a k:=by
 rcases (show c≤rlo a k∨rlo a k<c by grind) with d|d
 ·exact d
 ·exfalso
  have h3:=xg1 k d
  rw [qh3,hc,Rat.intCast_lt_intCast] at h3
  have h4:(((rbn a k:Nat):Int):Rat)+1≤(m:Rat):=by
   have:(((((rbn a k:Nat):Int)+1:Int)):Rat)≤(m:Rat):=Rat.intCast_le_intCast.2 om
   rw [Rat.intCast_add] at this;exact this
  rw [← qh3,← hc,← qs2 k] at h4
  have h5:rlo a k+hq k≤c:=qB3 (k:=k) (by rw [Rat.add_mul];exact h4)
  have h6:=qH9 h k
  have h7:=qR7 (show 0≤rlo a k+hq k by have:=qk8 a k;have:=qm0 k;grind) h5
  grind
theorem ql6 {a:Rat} {k:Nat} (h:rlo a k*rlo a k=a):rhi a k=rlo a k:=by unfold rhi;rw [if_pos h]
theorem qo7 {a:Rat} {k:Nat} (h:¬ rlo a k*rlo a k=a):rhi a k=rlo a k+hq k:=by
 unfold rhi;rw [if_neg h]
 refine xj6 (k:=k) ?_
 rw [xx6,Rat.add_mul,qh3,qs2,Int.natCast_add,Rat.intCast_add];rfl
theorem qT_ (a:Rat) (k:Nat):∃ m:Nat,rhi a k*tq k=(((m:Nat):Int):Rat):=by
 by_cases h:rlo a k*rlo a k=a
 ·exact ⟨rbn a k,by rw [ql6 h,qh3]⟩
 ·exact ⟨rbn a k+1,by rw [qo7 h,Rat.add_mul,qh3,qs2,Int.natCast_add,Rat.intCast_add];rfl⟩
theorem qv3 (a:Rat) (k:Nat):rlo a k≤rhi a k:=by
 by_cases h:rlo a k*rlo a k=a
 ·rw [ql6 h];exact Rat.le_refl
 ·rw [qo7 h];have:=qm0 k;grind
theorem qD2 (a:Rat) (k:Nat):0≤rhi a k:=Rat.le_trans (qk8 a k) (qv3 a k)
theorem qC5 {a:Rat} (h:0≤a) (k:Nat):a≤rhi a k*rhi a k:=by
 by_cases h2:rlo a k*rlo a k=a
 ·rw [ql6 h2,h2];exact Rat.le_refl
 ·rw [qo7 h2];exact Rat.le_of_lt (qH9 h k)
theorem xi7 {a c:Rat} {k:Nat} {m:Int} (h:0≤a) (h0:0≤c) (hc:c*tq k=(m:Rat)) (h2:a≤c*c):rhi a k≤c:=by
 by_cases he:rlo a k*rlo a k=a
 ·rw [ql6 he];exact qL0 (qk8 a k) h0 (by rw [he];exact h2)
 ·rw [qo7 he]
  have h3:rlo a k<c:=qH2 (qk8 a k) h0 (by have:=qm1 h k;grind)
  have h3:=xg1 k h3
  rw [qh3,hc,Rat.intCast_lt_intCast] at h3
  have h4:(((rbn a k:Nat):Int):Rat)+1≤(m:Rat):=by
   have:(((((rbn a k:Nat):Int)+1:Int)):Rat)≤(m:Rat):=Rat.intCast_le_intCast.2 om
   rw [Rat.intCast_add] at this;exact this
  rw [← qh3,← hc,← qs2 k] at h4
  exact qB3 (k:=k) (by rw [Rat.add_mul];exact h4)
theorem qs8 {a b:Rat} (k:Nat) (h:0≤a) (hab:a≤b):rlo a k≤rlo b k :=
 qP0 (Rat.le_trans h hab) (qh3 a k) (Rat.le_trans (qm1 h k) hab)
theorem qt3 {a b:Rat} (k:Nat) (h:0≤a) (hab:a≤b):rhi a k≤rhi b k:=by
 obtain ⟨m,hm⟩:=qT_ b k
 exact xi7 h (qD2 b k) hm (Rat.le_trans hab (qC5 (Rat.le_trans h hab) k))
theorem qs9 {a:Rat} {p q:Nat} (h:0≤a) (hpq:p≤q):rlo a p≤rlo a q:=by
 obtain ⟨j,rfl⟩:∃ j,q=p+j:=⟨q - p,by omega⟩
 refine qP0 (m:=((rbn a p:Nat):Int)*((2 ^ j:Nat):Int)) h ?_ (qm1 h p)
 rw [qy2,← Rat.mul_assoc,qh3,Rat.intCast_mul];rfl
theorem qt0 {a:Rat} {p q:Nat} (h:0≤a) (hpq:p≤q):rhi a q≤rhi a p:=by
 obtain ⟨j,rfl⟩:∃ j,q=p+j:=⟨q - p,by omega⟩
 obtain ⟨m,hm⟩:=qT_ a p
 refine xi7 (m:=((m:Nat):Int)*((2 ^ j:Nat):Int)) h (qD2 a p) ?_ (qC5 h p)
 rw [qy2,← Rat.mul_assoc,hm,Rat.intCast_mul];rfl
theorem xb_ (a:Rat) (k:Nat):rbn (4*a) k=rbn a (k+1):=by
 have e:4*a*(((2 ^ k*2 ^ k:Nat):Int):Rat)=a*(((2 ^ (k+1)*2 ^ (k+1):Nat):Int):Rat):=by
  rw [xn_,xn_,qy2 k 1]
  have e:tq 1=2:=by unfold tq;decide +kernel
  rw [e];grind
 unfold rbn;rw [e]
theorem qp5 (a:Rat) (k:Nat):rlo (4*a) k=2*rlo a (k+1):=by
 refine xj6 (k:=k) ?_
 have h1:=qh3 (4*a) k
 have h2:=qh3 a (k+1)
 rw [xb_] at h1
 rw [h1,← h2,qy2 k 1]
 have e:tq 1=2:=by unfold tq;decide +kernel
 rw [e];grind
theorem qs4 (a:Rat) (k:Nat):rhi (4*a) k=2*rhi a (k+1):=by
 have h1:=qp5 a k
 by_cases h:rlo a (k+1)*rlo a (k+1)=a
 ·rw [ql6 h,ql6 (by rw [h1];grind),h1]
 ·rw [qo7 h,qo7 (by rw [h1];grind),h1]
  have e:hq k=2*hq (k+1):=by unfold hq;rw [Rat.pow_succ];grind
  rw [e];grind
theorem qC7 (a:Rat) (k:Nat):(rlo a k / hq k).den=1:=by
 have e:rlo a k / hq k=rlo a k*tq k:=by
  rw [Rat.div_def,Rat.inv_eq_of_mul_eq_one (qs2 k)]
 rw [e,qh3];rfl
theorem qP8 (a:Rat) (k:Nat):(rhi a k / hq k).den=1:=by
 have e:rhi a k / hq k=rhi a k*tq k:=by
  rw [Rat.div_def,Rat.inv_eq_of_mul_eq_one (qs2 k)]
 obtain ⟨m,hm⟩:=qT_ a k
 rw [e,hm];rfl
theorem qX0 {a:Rat} (h:0≤a) (k:Nat) (hp:0<rhi a k):(rhi a k - hq k)*(rhi a k - hq k)<a:=by
 by_cases he:rlo a k*rlo a k=a
 ·rw [ql6 he] at *
  have h1:hq k≤rlo a k:=by
   refine qB3 (k:=k) ?_
   rw [qs2,qh3]
   have h2:=xg1 k hp
   rw [Rat.zero_mul,qh3] at h2
   have h3:(0:Int)<((rbn a k:Nat):Int):=Rat.intCast_pos.1 h2
   have:(((1:Int)):Rat)≤(((rbn a k:Nat):Int):Rat):=Rat.intCast_le_intCast.2 om
   exact this
  have h2:=qm0 k
  generalize hq k=s at *
  generalize rlo a k=l at *
  have h3:0<s*(l+(l - s)):=Rat.mul_pos h2 (by grind)
  grind
 ·rw [qo7 he]
  have h1:=qm1 h k
  generalize rlo a k=l at *
  generalize hq k=s at *
  have:l+s - s=l:=by grind
  rw [this];grind
theorem xx8 {a b s l1 l2 h l:Rat} (n1:0≤l1) (n2:0≤l2) (n3:0≤h) (h1:l1*l1≤a) (h2:l2*l2≤b) (h3:s≤h*h) (hl:s - (a+b)=l) (l0:¬ l<0) (hc:4*(a*b)≤l*l):l1+l2≤h:=by
 have e1:0≤l:=by grind
 have e2:0≤l1*l2:=Rat.mul_nonneg n1 n2
 have e3:l1*l1*(l2*l2)≤a*b:=Rat.le_trans (Rat.mul_le_mul_of_nonneg_right h1 (qb7 _)) (Rat.mul_le_mul_of_nonneg_left h2 (Rat.le_trans (qb7 l1) h1))
 have e4:2*(l1*l2)≤l:=qL0 (by grind) e1 (by grind)
 refine qL0 (by grind) n3 ?_
 grind
theorem xz4 {a b s h1 h2 l k:Rat} (a0:0≤a) (b0:0≤b) (n1:0≤h1) (n2:0≤h2) (n3:0≤l) (e1:a≤h1*h1) (e2:b≤h2*h2) (e3:l*l≤s) (hk:s - (a+b)=k) (hc:k<0∨k*k≤4*(a*b)):l≤h1+h2:=by
 have f2:0≤h1*h2:=Rat.mul_nonneg n1 n2
 have f4:k≤2*(h1*h2):=by
  rcases (show k≤0∨0<k by grind) with c|c
  ·grind
  ·have hc:k*k≤4*(a*b):=by
    rcases hc with d|d
    ·exfalso;grind
    ·exact d
   have f3:a*b≤h1*h1*(h2*h2):=Rat.le_trans (Rat.mul_le_mul_of_nonneg_right e1 b0) (Rat.mul_le_mul_of_nonneg_left e2 (qb7 _))
   exact qL0 (Rat.le_of_lt c) (by grind) (by grind)
 refine qL0 n3 (by grind) ?_
 grind
theorem xu8 {a b s l:Rat} (a0:0≤a) (b0:0≤b) (s0:0≤s) (hl:s*s - (a*a+b*b)=l):(l<0→0<a+b - s)∧(¬ l<0→sgQ (4*(a*a*(b*b)) - l*l)=sgQ (a+b - s)):=by
 have ab:0≤a*b:=Rat.mul_nonneg a0 b0
 constructor
 ·intro h
  rcases (show 0<a+b - s∨a+b≤s by grind) with c|c
  ·exact c
  ·have:=qR7 (show 0≤a+b by grind) c
   exfalso;grind
 ·intro h
  have e:4*(a*a*(b*b))=2*(a*b)*(2*(a*b)):=by grind
  rw [e]
  rcases (show a+b - s<0∨a+b - s=0∨0<a+b - s by grind) with c|c|c
  ·rw [qf5 c]
   have h1:0<(s - (a+b))*(s+(a+b)):=Rat.mul_pos (by grind) (by grind)
   have h2:2*(a*b)<l:=by grind
   have h3:0<(l - 2*(a*b))*(l+2*(a*b)):=Rat.mul_pos (by grind) (by grind)
   exact qf5 (by grind)
  ·rw [c]
   have h1:s=a+b:=by grind
   have h2:l=2*(a*b):=by rw [← hl,h1];grind
   rw [h2]
   have:2*(a*b)*(2*(a*b)) - 2*(a*b)*(2*(a*b))=0:=by grind
   rw [this]
  ·rw [qh9 c]
   have h1:0<(a+b - s)*(s+(a+b)):=Rat.mul_pos c (by grind)
   have h2:l<2*(a*b):=by grind
   have h3:0<(2*(a*b) - l)*(l+2*(a*b)):=Rat.mul_pos (by grind) (by grind)
   exact qh9 (by grind)
def exq (a:Rat):Rat:=mkRat ((rt (Int.natAbs (a.num)):Nat):Int) (rt a.den)
theorem qV0 {n:Nat} (h:0<n):0<rt n:=by
 have:=qY8 n
 rcases Nat.eq_zero_or_pos (rt n) with e|e
 ·rw [e] at this;omega
 ·exact e
theorem qR0 (a:Rat):0≤exq a:=by
 unfold exq
 rw [Rat.mkRat_eq_div,Rat.div_def]
 refine Rat.mul_nonneg (qS2 _) ?_
 have h:=qV0 a.den_pos
 have h2:(0:Rat)<(((rt a.den:Nat):Int):Rat):=Rat.intCast_pos.2 om
 exact Rat.le_of_lt (Rat.inv_pos.2 h2)
theorem xw9 (n:Nat):rt (n*n)=n:=xC1 (Nat.le_refl _) (Nat.mul_lt_mul'' (Nat.lt_succ_self n) (Nat.lt_succ_self n))
theorem xv4 (q:Rat):mkRat ((Int.natAbs q.num:Nat):Int) q.den=qabs q:=by
 unfold qabs
 by_cases h:q<0
 ·rw [if_pos h]
  have h1:q.num<0:=qj5.2 h
  have h2:((Int.natAbs q.num:Nat):Int) = -q.num:=by omega
  rw [h2,← Rat.neg_mkRat,Rat.mkRat_self]
 ·rw [if_neg h]
  have h1:¬ q.num<0:=fun e=>h (qj5.1 e)
  have h2:((Int.natAbs q.num:Nat):Int)=q.num:=by omega
  rw [h2,Rat.mkRat_self]
theorem qI9 (q:Rat):exq (q*q)=qabs q:=by
 have e:q*q=q ^ 2:=by rw [Rat.pow_succ,Rat.pow_succ,Rat.pow_zero,Rat.one_mul]
 unfold exq
 rw [e,Rat.num_pow,Rat.den_pow,Int.natAbs_pow,Nat.pow_two,Nat.pow_two,xw9,xw9]
 exact xv4 q
theorem qv9 (q:Rat):qabs q*qabs q=q*q:=by
 unfold qabs;split
 ·grind
 ·rfl
theorem qj2 (q:Rat):0≤qabs q:=by
 unfold qabs;split <;> grind
theorem xy8 {b s:Rat} (h:b=s*s):exq b*exq b=b:=by
 rw [h,qI9,qv9]
end Go.Proofs.YtaflakcemiilaaaGreatDoor

set_option maxRecDepth 100000
set_option maxHeartbeats 16000000
set_option linter.unusedVariables false
set_option linter.unusedSimpArgs false
namespace Go.Proofs.YtaflakcemiilaaaGreatDoor
open Go.RowKit
attribute [local go_sem ↓] Go.wp_at_zero Go.wp_at_succ
attribute [local go_sem ↓] qd6 qa7 qf4
attribute [local go_sem ↓] qk3 qe7
theorem xz1 (a y x:Rat) (p t z:Nat) (f:Int) (w:World) (HTT:Hid (p*p=t)) (HY:Hid ((((t:Nat):Int):Rat)=y)) (HX:Hid (a*y=x)) (HFL:Hid (x.floor=f)) (HZ:Hid (rt f.natAbs=z)) (hs:sz a≤3000) (hwp:wl p≤10) (hsy:sz y≤20) :
  Calls Tryz.prog 190 #[(Value.agg #[.int .u64 (lo a.num.natAbs),.string (bg a.num.natAbs),.bool (a.num<0),.int .u64 (lo (a.den - 1)),.string (bg (a.den - 1)),.int .u64 (lo p),.string (bg p)])] w fun e w'=>e=.returned (.agg #[.int .u64 (lo z),.string (bg z)])∧Below w.heap.size w w':=by
 go_enter Tryz.func190,Tryz.ntmps190
 have I:=lh_ (hp0 w)
 refine kS fun K O=>?_
 refine wp_region_lit ?_
 go_wp2
 refine kF_ O (((I.out).aL (w.heap.size)).aL (w.heap.size+1)) fun Wx0 J=>?_;clear O K
 clear I;have I:=J;clear J
 generalize w.heap.size+1=gx1 at *
 have HZ1:Hid (p*(p)=t):=lh_ (HTT.out)
 have su1:wl t≤20:=by have e:=HZ1.out;first|omega|(rw [← e];have:=qk6 p p;omega)
 have HZ2:Hid ((if false then -((t:Nat):Int) else ((t:Nat):Int))=((t:Nat):Int)):=lh_ (by rfl)
 have su2:wl (Int.natAbs (((t:Nat):Int)))≤20:=by have e:=HZ2.out;first|omega|(rw [← e];split <;> simp <;> omega)
 have su_0_1:wl 1≤1:=qa4.2 (by decide +kernel)
 have HZ3:Hid (mkRat (((t:Nat):Int)) (1)=y):=lh_ (by rw [xv5];exact HY.out)
 have su3:sz y≤20:=by have e:=HZ3.out;first|omega|(rw [← e];exact qe8 (k:=20) om om (by decide))
 have lx0:=c0_ I
 refine ql9 fun K O T Y=>?_
 iterate 4 refine tk ?_
 refine ck Tryz.call112 (fun w' hw=>xA2 p p t _ HZ1.out om om) ?_
 refine ck Tryz.call113 (fun w' hw=>qc4 false t (((t:Nat):Int)) _ HZ2.out) ?_
 refine ck Tryz.call124 (fun w' hw=>nzof 1 _ (by decide)) ?_
 refine ck Tryz.call116 (fun w' hw=>qk2 (((t:Nat):Int)) (1) y _ (lh_ HZ3.out) ok om om) ?_
 refine tk3_ ?_
 refine nlS Y I fun vw1 J=>?_
 clear Y T I lx0
 go_wp2
 refine kF_ O ((J.out).aL (vw1.heap.size)) fun Wx1 I=>?_;clear O K
 clear J
 generalize vw1.heap.size=gx3 at *
 have HZ4:Hid (a*(y)=x):=lh_ (HX.out)
 have su4:sz x≤3020:=by have e:=HZ4.out;first|omega|(rw [← e];have:=qb0 a y;omega)
 have HZ5:Hid (x.floor=f):=lh_ (HFL.out)
 have su5:wl f.natAbs≤3021:=by have e:=HZ5.out;first|omega|(rw [← e];have:=qH1 x;omega)
 have HZ6:Hid (rt f.natAbs=z):=lh_ (HZ.out)
 have su6:wl z≤3021:=by have e:=HZ6.out;first|omega|(rw [← e];have:=qb4 (qm6 f.natAbs);omega)
 have lx0:=c0_ I
 have lx3:=c2_ I
 refine ks7_ fun K O T Y=>?_
 refine tk3_ ?_
 refine ck Tryz.call39 (fun w' hw=>qc7 a y x _ HZ4.out om om) ?_
 refine ck Tryz.call136 (fun w' hw=>qM_ x f _ (lh_ HZ5.out) om) ?_
 refine ck Tryz.call114 (fun w' hw=>qj4 f _) ?_
 refine ck Tryz.call117 (fun w' hw=>qD0 f.natAbs z _ HZ6.out om) ?_
 refine nlS Y I fun vw2 J=>?_
 clear Y T I lx0 lx3
 have lx1:=c1_ J;have fx1:=f1_ J
 have r0:=Gr.refl vw2
 go_wp2
 refine kO O ?_;clear O K
 clear r0 lx1 fx1
 refine fH ((((J.out).put2 1 0 rfl).er 2).er 0) fun Wx2 I=>?_
 clear J
 refine wp_ret ?_
 try simp only [Exit.then,Exit.inBlock]
 have lx1:=c0_ I
 have r0:=Gr.refl Wx2
 exact bodyPost_ret (v:=.agg #[.int .u64 (lo z),.string (bg z)]) (by simp [results,Tryz.results190,go_sem,lx1 _ r0]) rfl ⟨rfl,I.out.1⟩
theorem qt5 {k:Nat} (h:k≤100):wl (2 ^ k)≤4:=Nat.le_trans (qb4 (Nat.pow_le_pow_right (by decide) h)) (qa4.2 (by decide +kernel))
theorem xi6 {k:Nat} (h:k≤100):sz (((2 ^ k*2 ^ k:Nat):Int):Rat)≤8:=by
 rw [xj3,Int.natAbs_natCast]
 have h1:=qk6 (2 ^ k) (2 ^ k)
 have h2:=qt5 h
 omega
theorem qI6 {a:Rat} {k M:Nat} (hk:k≤100) (h:sz a≤M):wl (rbn a k)≤M+9:=by
 unfold rbn
 have h1:=qb4 (qm6 (Int.natAbs ((a*(((2 ^ k*2 ^ k:Nat):Int):Rat)).floor)))
 have h2:=qH1 (a*(((2 ^ k*2 ^ k:Nat):Int):Rat))
 have h3:=qb0 a (((2 ^ k*2 ^ k:Nat):Int):Rat)
 have h4:=xi6 hk
 omega
theorem xw7 (a:Rat) (k p z:Nat) (w:World) (hp:2 ^ k=p) (hz:rbn a k=z) (hk:k≤100) (hs:sz a≤3000) :
  Calls Tryz.prog 190 #[.agg #[.int .u64 (lo a.num.natAbs),.string (bg a.num.natAbs),.bool (a.num<0),.int .u64 (lo (a.den - 1)),.string (bg (a.den - 1)),.int .u64 (lo p),.string (bg p)]] w fun e w'=>e=.returned (Value.agg #[.int .u64 (lo z),.string (bg z)])∧Below w.heap.size w w':=by
 subst hp
 have h1:=qt5 hk
 exact xz1 a _ _ _ _ z _ w (lh_ rfl) (lh_ rfl) (lh_ rfl) (lh_ rfl) (lh_ hz) hs om (Nat.le_trans (xi6 hk) (by decide))
theorem rby0 (a z:Rat) (p n:Nat) (w:World) (HZ:Hid (mkRat ((n:Nat):Int) p=z)) (HP0:Hid (0<p)) (hwn:wl n≤3100) (hwp:wl p≤10) :
  Calls Tryz.prog 189 #[(Value.agg #[.int .u64 (lo a.num.natAbs),.string (bg a.num.natAbs),.bool (a.num<0),.int .u64 (lo (a.den - 1)),.string (bg (a.den - 1)),.int .u64 (lo p),.string (bg p)]),(Value.agg #[.int .u64 (lo n),.string (bg n)])] w fun e w'=>e=.returned (.agg #[.int .u64 (lo z.num.natAbs),.string (bg z.num.natAbs),.bool (z.num<0),.int .u64 (lo (z.den - 1)),.string (bg (z.den - 1))])∧Below w.heap.size w w':=by
 have hwi:wl (Int.natAbs ((n:Nat):Int))≤3100:=by rw [Int.natAbs_natCast];exact hwn
 go_enter Tryz.func189,Tryz.ntmps189
 have I:=lh_ (hp0 w)
 refine kS fun K O=>?_
 refine wp_region_lit ?_
 go_wp2
 refine kF_ O ((((I.out).aL (w.heap.size)).aL (w.heap.size+1)).aL (w.heap.size+1+1)) fun Wx0 J=>?_;clear O K
 clear I;have I:=J;clear J
 generalize w.heap.size+1+1=gx2 at *
 generalize w.heap.size+1=gx1 at *
 have HZ1:Hid ((if false then -((n:Nat):Int) else ((n:Nat):Int))=((n:Nat):Int)):=lh_ (by rfl)
 have su1:wl (Int.natAbs (((n:Nat):Int)))≤3100:=by have e:=HZ1.out;first|omega|(rw [← e];split <;> simp <;> omega)
 have HZ2:Hid (mkRat (((n:Nat):Int)) p=z):=lh_ (HZ.out)
 have su2:sz z≤3100:=by have e:=HZ2.out;first|omega|(rw [← e];exact qe8 (k:=3100) om om (by decide))
 have lx0:=c0_ I
 have lx1:=c1_ I
 refine kS fun K O=>?_
 refine qa2 9 [8] [7] (fun _=>5) (fun _=>.cells #[.int .u64 0,.string ⟨#[]⟩,.bool false,.int .u64 0,.string ⟨#[]⟩] 36) [(true,0),(true,2),(true,3),(true,1),(true,4),(true,5),(true,6),(true,7)] (by kernel_rfl) (by kernel_rfl) (by intro i hi;simp only [List.mem_cons,List.not_mem_nil,or_false] at hi;rcases hi with rfl <;> exact ⟨_,rfl,rfl,rfl,by simp,fun ρ w=>by kernel_rfl⟩) (by intro i hi;simp only [List.mem_cons,List.not_mem_nil,or_false] at hi;rcases hi with rfl <;> exact ⟨_,rfl,qb9⟩) (fun _ _ _ _ _ h=>h) (fun T Y=>?_)
 refine tk3_ ?_
 refine ck Tryz.call113 (fun w' hw=>qc4 false n (((n:Nat):Int)) _ HZ1.out) ?_
 refine ck Tryz.call116 (fun w' hw=>qk2 (((n:Nat):Int)) p z _ (lh_ HZ2.out) (by exact HP0.out) om om) ?_
 refine tk3_ ?_
 refine qa1 (Y.out _ _ ?_)
 intro G vw1 hg hf
 simp only [puts,Act.put,lA,lB,lC,lD,lE,↓reduceIte,Nat.reduceEqDiff]
 have J:=lh_ (I.out.fr hg hf (zs:=[(#[.int .u64 0,.string ⟨#[]⟩,.bool false,.int .u64 0,.string ⟨#[]⟩],36)]) rfl (by decide) (by decide))
 simp only [zq1_,zq2_,zq3_,zq4_,lF,lG] at J
 clear Y T I hg hf lx0 lx1
 generalize G 8=gx4 at *
 have lx4:=c3_ J;have fx4:=f3_ J
 have r0:=Gr.refl vw1
 go_wp2
 refine kO O ?_;clear O K
 clear r0 lx4 fx4
 refine fH ((((((J.out).put2 3 0 rfl).put2 3 2 rfl).put 3 4 _ rfl).er 1).er 0) fun Wx1 I=>?_
 clear J
 have lx4:=c1_ I
 refine ks1_ fun K O T Y=>?_
 refine tk ?_
 refine nlS Y I fun vw2 J=>?_
 clear Y T I lx4
 have lx2:=c0_ J;have fx2:=f0_ J
 have r0:=Gr.refl vw2
 go_wp2
 refine kO O ?_;clear O K
 clear r0 lx2 fx2
 refine fH (((((J.out).put2 0 0 rfl).put2 0 2 rfl).put 0 4 _ rfl).er 1) fun Wx2 I=>?_
 clear J
 refine wp_ret ?_
 try simp only [Exit.then,Exit.inBlock]
 have lx2:=c0_ I
 have r0:=Gr.refl Wx2
 exact bodyPost_ret (v:=.agg #[.int .u64 (lo z.num.natAbs),.string (bg z.num.natAbs),.bool (z.num<0),.int .u64 (lo (z.den - 1)),.string (bg (z.den - 1))]) (by simp [results,Tryz.results189,go_sem,lx2 _ r0]) rfl ⟨rfl,I.out.1⟩
theorem xq2 (a z:Rat) (k p n:Nat) (w:World) (HN:Hid (rbn a k=n)) (HZ:Hid (mkRat ((n:Nat):Int) p=z)) (HP:Hid (2 ^ k=p)) (hk:k≤100) (hs:sz a≤2000) (hwp:wl p≤10) :
  Calls Tryz.prog 93 #[(Value.agg #[.int .u64 (lo a.num.natAbs),.string (bg a.num.natAbs),.bool (a.num<0),.int .u64 (lo (a.den - 1)),.string (bg (a.den - 1)),.int .u64 (lo p),.string (bg p)])] w fun e w'=>e=.returned (.agg #[.int .u64 (lo z.num.natAbs),.string (bg z.num.natAbs),.bool (z.num<0),.int .u64 (lo (z.den - 1)),.string (bg (z.den - 1))])∧Below w.heap.size w w':=by
 go_enter Tryz.func93,Tryz.ntmps93
 have I:=lh_ (hp0 w)
 refine kS fun K O=>?_
 refine wp_region_lit ?_
 go_wp2
 refine kF_ O (((I.out).aL (w.heap.size)).aL (w.heap.size+1)) fun Wx0 J=>?_;clear O K
 clear I;have I:=J;clear J
 generalize w.heap.size+1=gx1 at *
 have HZ1:Hid (rbn a k=n):=lh_ (HN.out)
 have su1:wl n≤2009:=by have e:=HZ1.out;first|omega|(rw [← e];exact qI6 om om)
 have HZ2:Hid (mkRat ((n:Nat):Int) p=z):=lh_ (HZ.out)
 have su2:sz z≤2009:=by have e:=HZ2.out;first|omega|(rw [← e];exact qe8 (by rw [Int.natAbs_natCast];omega) om (by decide))
 have lx0:=c0_ I
 refine kS fun K O=>?_
 refine xs3 fun T Y=>?_
 refine tk2_ ?_
 refine ck Tryz.call190 (fun w' hw=>xw7 a k p n _ HP.out HZ1.out om om) ?_
 refine ck Tryz.call189 (fun w' hw=>rby0 a z p n _ (lh_ HZ2.out) (lh_ (by rw [← HP.out];exact Nat.pow_pos (by decide))) om om) ?_
 refine nlD Y I fun vw1 J=>?_
 clear Y T I lx0
 have lx1:=c1_ J;have fx1:=f1_ J
 have r0:=Gr.refl vw1
 go_wp2
 refine kO O ?_;clear O K
 clear r0 lx1 fx1
 refine fH (((((J.out).put2 1 0 rfl).put2 1 2 rfl).put 1 4 _ rfl).er 0) fun Wx1 I=>?_
 clear J
 refine wp_ret ?_
 try simp only [Exit.then,Exit.inBlock]
 have lx1:=c0_ I
 have r0:=Gr.refl Wx1
 exact bodyPost_ret (v:=.agg #[.int .u64 (lo z.num.natAbs),.string (bg z.num.natAbs),.bool (z.num<0),.int .u64 (lo (z.den - 1)),.string (bg (z.den - 1))]) (by simp [results,Tryz.results93,go_sem,lx1 _ r0]) rfl ⟨rfl,I.out.1⟩
theorem qS0 (a:Rat) (k p:Nat) (z:Rat) (w:World) (hp:2 ^ k=p) (hz:rlo a k=z) (hk:k≤100) (hs:sz a≤2000) :
  Calls Tryz.prog 93 #[.agg #[.int .u64 (lo a.num.natAbs),.string (bg a.num.natAbs),.bool (a.num<0),.int .u64 (lo (a.den - 1)),.string (bg (a.den - 1)),.int .u64 (lo p),.string (bg p)]] w fun e w'=>e=.returned (Value.agg #[.int .u64 (lo z.num.natAbs),.string (bg z.num.natAbs),.bool (z.num<0),.int .u64 (lo (z.den - 1)),.string (bg (z.den - 1))])∧Below w.heap.size w w':=by
 subst hp
 have h1:=qt5 hk
 exact xq2 a z k _ _ w (lh_ rfl) (lh_ hz) (lh_ rfl) hk hs om
theorem qd2 {a:Rat} {k M:Nat} (hk:k≤100) (h:sz a≤M):sz (rlo a k)≤M+9:=by
 unfold rlo
 have h1:=qt5 hk
 have h2:=qI6 hk h
 exact qe8 (by rw [Int.natAbs_natCast];omega) om om
theorem qd8 {a:Rat} {k M:Nat} (hk:k≤100) (h:sz a≤M):sz (rhi a k)≤M+10:=by
 unfold rhi
 split
 ·exact Nat.le_trans (qd2 hk h) om
 ·have h1:=qt5 hk
  have h2:=qI6 hk h
  have h3:=qo3 (rbn a k) 1
  have h4:wl 1≤1:=qe5 (by decide)
  exact qe8 (by rw [Int.natAbs_natCast];omega) om om
theorem xb2 (a l:Rat) (k p:Nat) (w:World) (HL:Hid (rlo a k=l)) (HSQ:Hid (l*l=a)) (HP:Hid (2 ^ k=p)) (hk:k≤100) (hs:sz a≤1000) (hwp:wl p≤10) :
  Calls Tryz.prog 95 #[(Value.agg #[.int .u64 (lo a.num.natAbs),.string (bg a.num.natAbs),.bool (a.num<0),.int .u64 (lo (a.den - 1)),.string (bg (a.den - 1)),.int .u64 (lo p),.string (bg p)])] w fun e w'=>e=.returned (.agg #[.int .u64 (lo l.num.natAbs),.string (bg l.num.natAbs),.bool (l.num<0),.int .u64 (lo (l.den - 1)),.string (bg (l.den - 1))])∧Below w.heap.size w w':=by
 go_enter Tryz.func95,Tryz.ntmps95
 have I:=lh_ (hp0 w)
 refine kS fun K O=>?_
 refine wp_region_lit ?_
 go_wp2
 refine kF_ O (((I.out).aL (w.heap.size)).aL (w.heap.size+1)) fun Wx0 J=>?_;clear O K
 clear I;have I:=J;clear J
 generalize w.heap.size+1=gx1 at *
 have HZ1:Hid (rlo a k=l):=lh_ (HL.out)
 have su1:sz l≤1009:=by have e:=HZ1.out;first|omega|(rw [← e];exact qd2 om om)
 have lx0:=c0_ I
 refine ks2_ fun K O T Y=>?_
 refine tk ?_
 refine ck Tryz.call93 (fun w' hw=>qS0 a k p l _ HP.out HZ1.out om om) ?_
 refine nlS Y I fun vw1 J=>?_
 clear Y T I lx0
 go_wp2
 refine kF_ O ((J.out).aL (vw1.heap.size)) fun Wx1 I=>?_;clear O K
 clear J
 generalize vw1.heap.size=gx3 at *
 refine wp_seq ?_
 have HZ2:Hid (l*(l)=a):=lh_ (HSQ.out)
 have su2:sz a≤2018:=by have e:=HZ2.out;first|omega|(rw [← e];have:=qb0 l l;omega)
 have lx0:=c0_ I
 have lx3:=c2_ I
 refine kS fun K O=>?_
 refine xy_ fun T Y=>?_
 refine tk3_ ?_
 refine ck Tryz.call37 (fun w' hw=>qa3 l a _ (lh_ HZ2.out) om) ?_
 refine nlD Y I fun vw2 J=>?_
 clear Y T I lx0 lx3
 go_wp2
 refine kO O ?_;clear O K
 have I:=J;clear J
 refine wp_cond_true (by rfl) ?_
 have lx3:=c2_ I
 refine ks1_ fun K O T Y=>?_
 refine tk ?_
 refine nlS Y I fun vw3 J=>?_
 clear Y T I lx3
 have lx1:=c1_ J;have fx1:=f1_ J
 have r0:=Gr.refl vw3
 go_wp2
 refine kO O ?_;clear O K
 clear r0 lx1 fx1
 refine fH (((((J.out).put2 1 0 rfl).put2 1 2 rfl).put 1 4 _ rfl).er 2) fun Wx3 I=>?_
 clear J
 refine wp_ret ?_
 try simp only [Exit.then,Exit.inBlock]
 have lx1:=c1_ I
 have r0:=Gr.refl Wx3
 exact bodyPost_ret (v:=.agg #[.int .u64 (lo l.num.natAbs),.string (bg l.num.natAbs),.bool (l.num<0),.int .u64 (lo (l.den - 1)),.string (bg (l.den - 1))]) (by simp [results,Tryz.results95,go_sem,lx1 _ r0]) rfl ⟨rfl,I.out.1⟩
theorem xf1 (a l z:Rat) (k p n m:Nat) (w:World) (HL:Hid (rlo a k=l)) (HSQ:Hid (¬ l*l=a)) (HN:Hid (rbn a k=n)) (HM:Hid (n+1=m)) (HZ:Hid (mkRat ((m:Nat):Int) p=z)) (HP:Hid (2 ^ k=p)) (hk:k≤100) (hs:sz a≤1000) (hwp:wl p≤10) :
  Calls Tryz.prog 95 #[(Value.agg #[.int .u64 (lo a.num.natAbs),.string (bg a.num.natAbs),.bool (a.num<0),.int .u64 (lo (a.den - 1)),.string (bg (a.den - 1)),.int .u64 (lo p),.string (bg p)])] w fun e w'=>e=.returned (.agg #[.int .u64 (lo z.num.natAbs),.string (bg z.num.natAbs),.bool (z.num<0),.int .u64 (lo (z.den - 1)),.string (bg (z.den - 1))])∧Below w.heap.size w w':=by
 go_enter Tryz.func95,Tryz.ntmps95
 have I:=lh_ (hp0 w)
 refine kS fun K O=>?_
 refine wp_region_lit ?_
 go_wp2
 refine kF_ O (((I.out).aL (w.heap.size)).aL (w.heap.size+1)) fun Wx0 J=>?_;clear O K
 clear I;have I:=J;clear J
 generalize w.heap.size+1=gx1 at *
 have HZ1:Hid (rlo a k=l):=lh_ (HL.out)
 have su1:sz l≤1009:=by have e:=HZ1.out;first|omega|(rw [← e];exact qd2 om om)
 have lx0:=c0_ I
 refine ks2_ fun K O T Y=>?_
 refine tk ?_
 refine ck Tryz.call93 (fun w' hw=>qS0 a k p l _ HP.out HZ1.out om om) ?_
 refine nlS Y I fun vw1 J=>?_
 clear Y T I lx0
 go_wp2
 refine kF_ O ((J.out).aL (vw1.heap.size)) fun Wx1 I=>?_;clear O K
 clear J
 generalize vw1.heap.size=gx3 at *
 refine wp_seq ?_
 obtain ⟨u2,HZ2⟩:∃ z,Hid (l*(l)=z):=⟨_,lh_ rfl⟩
 have su2:sz u2≤2018:=by rw [← HZ2.out];have:=qb0 l l;omega
 have lx0:=c0_ I
 have lx3:=c2_ I
 refine kS fun K O=>?_
 refine xy_ fun T Y=>?_
 refine tk3_ ?_
 refine ck Tryz.call37 (fun w' hw=>qa3 l u2 _ (lh_ HZ2.out) om) ?_
 refine nlD Y I fun vw2 J=>?_
 clear Y T I lx0 lx3
 have hd1:decide (u2=a)=false:=decide_eq_false (by first|exact ok|exact HSQ.out|(simp only [← HZ2.out] <;> first|exact ok|exact HSQ.out))
 go_wp2
 refine kO O ?_;clear O K
 have I:=J;clear J
 clear hd1
 refine wp_cond_false (by rfl) ?_
 refine wp_skip ?_
 show Code.wp _ _ _ _ _
 have HZ3:Hid (rbn a k=n):=lh_ (HN.out)
 have su3:wl n≤1009:=by have e:=HZ3.out;first|omega|(rw [← e];exact qI6 om om)
 have su_0_4:wl 1≤1:=qa4.2 (by decide +kernel)
 have HZ4:Hid (n+(1)=m):=lh_ (HM.out)
 have su4:wl m≤1010:=by have e:=HZ4.out;first|omega|(rw [← e];have:=qo3 n (1);omega)
 have HZ5:Hid (mkRat ((m:Nat):Int) p=z):=lh_ (HZ.out)
 have su5:sz z≤1010:=by have e:=HZ5.out;first|omega|(rw [← e];exact qe8 (by rw [Int.natAbs_natCast];omega) om (by decide))
 have lx0:=c0_ I
 refine kS fun K O=>?_
 refine pd8_ fun T Y=>?_
 refine tk2_ ?_
 refine ck Tryz.call190 (fun w' hw=>xw7 a k p n _ HP.out HZ3.out om om) ?_
 refine ck Tryz.call124 (fun w' hw=>nzof 1 _ (by decide)) ?_
 refine ck Tryz.call122 (fun w' hw=>xr1 n (1) m _ HZ4.out om om) ?_
 refine ck Tryz.call189 (fun w' hw=>rby0 a z p m _ (lh_ HZ5.out) (lh_ (by rw [← HP.out];exact Nat.pow_pos (by decide))) om om) ?_
 refine nlD Y I fun vw3 J=>?_
 clear Y T I lx0
 have lx1:=c1_ J;have fx1:=f1_ J
 have r0:=Gr.refl vw3
 go_wp2
 refine kO O ?_;clear O K
 clear r0 lx1 fx1
 refine fH ((((((J.out).put2 1 0 rfl).put2 1 2 rfl).put 1 4 _ rfl).er 2).er 0) fun Wx4 I=>?_
 clear J
 refine wp_ret ?_
 try simp only [Exit.then,Exit.inBlock]
 have lx1:=c0_ I
 have r0:=Gr.refl Wx4
 exact bodyPost_ret (v:=.agg #[.int .u64 (lo z.num.natAbs),.string (bg z.num.natAbs),.bool (z.num<0),.int .u64 (lo (z.den - 1)),.string (bg (z.den - 1))]) (by simp [results,Tryz.results95,go_sem,lx1 _ r0]) rfl ⟨rfl,I.out.1⟩
theorem xx9 (a:Rat) (k p:Nat) (z:Rat) (w:World) (hp:2 ^ k=p) (hz:rhi a k=z) (hk:k≤100) (hs:sz a≤1000) :
  Calls Tryz.prog 95 #[.agg #[.int .u64 (lo a.num.natAbs),.string (bg a.num.natAbs),.bool (a.num<0),.int .u64 (lo (a.den - 1)),.string (bg (a.den - 1)),.int .u64 (lo p),.string (bg p)]] w fun e w'=>e=.returned (Value.agg #[.int .u64 (lo z.num.natAbs),.string (bg z.num.natAbs),.bool (z.num<0),.int .u64 (lo (z.den - 1)),.string (bg (z.den - 1))])∧Below w.heap.size w w':=by
 subst hp
 have h1:=qt5 hk
 unfold rhi at hz
 by_cases h:rlo a k*rlo a k=a
 ·rw [if_pos h] at hz
  subst hz
  exact xb2 a _ k _ w (lh_ rfl) (lh_ h) (lh_ rfl) hk hs om
 ·rw [if_neg h] at hz
  exact xf1 a _ z k _ _ _ w (lh_ rfl) (lh_ h) (lh_ rfl) (lh_ rfl) (lh_ hz) (lh_ rfl) hk hs om
end Go.Proofs.YtaflakcemiilaaaGreatDoor
