/- A pack of texts: Ints, IntOps, IntAdd, IntTold, IntSub. No condition but those stated. -/
import Derived.Test.YtobojnodohjiaaaGreatDoorPB
import Derived.Deep.RegionHeld3
set_option maxRecDepth 100000
set_option maxHeartbeats 16000000
set_option linter.unusedVariables false
set_option linter.unusedSimpArgs false
namespace Go.Proofs.YtobojnodohjiaaaGreatDoor
section
open Go.RowKit
attribute [local go_sem ↓] Go.wp_at_zero Go.wp_at_succ
theorem qz3 (d m:Nat) (w:World):(Op.equalIn (d+3) 32 (Value.agg #[.int .u64 (lo m),.string (bg m)]) (Value.agg #[.int .u64 0,.string ⟨#[]⟩])).run Tryz.prog w=.ok (decide (m=0)) w:=by
 simp [go_sem,eq_nat_zero]
 by_cases h0:m=0 <;> simp [h0]
attribute [local go_sem ↓] qz3
theorem qn_ (n:Nat) (w:World) :
  Calls Tryz.prog 113 #[(Value.agg #[.int .u64 (lo n),.string (bg n)])] w fun e w'=>e=.returned (.bool (decide (n=0)))∧Below w.heap.size w w':=by
 go_enter Tryz.func113,Tryz.ntmps113
 go_wp2
 go_ret
 exact ⟨rfl,(Below.refl _ _).alloc (Nat.le_refl _) _⟩
theorem qm6 (s:Bool) (n:Nat) (w:World) :
  Calls Tryz.prog 37 #[.bool s,(Value.agg #[.int .u64 (lo n),.string (bg n)])] w fun e w'=>e=.returned (.agg #[.int .u64 (lo n),.string (bg n),.bool (s && !decide (n=0))])∧Below w.heap.size w w':=by
 obtain ⟨W0,HW⟩:∃ W0,Hid (((w.alloc (.cells #[.int .u64 ((lo n:Nat):Int),.string (bg n)] 30)).alloc (.cells #[.int .u64 0,.string ⟨#[]⟩,.bool false] 34)).alloc (.cells #[.int .u64 ((lo n:Nat):Int),.string (bg n)] 32)=W0):=⟨_,Lib.hid rfl⟩
 have HS:=Lib.hid (show w.heap.size+3=W0.heap.size by rw [← HW.out];simp)
 have hza:w.heap.size+1<W0.heap.size:=by rw [← HS.out];omega
 have hzb:w.heap.size+1+1<W0.heap.size:=by rw [← HS.out];omega
 have hka:W0.cell? ⟨w.heap.size+1+1,0,none⟩=some (.int .u64 ((lo n:Nat):Int)):=by rw [← HW.out];simp [go_sem]
 have hkb:W0.cell? ⟨w.heap.size+1+1,1,none⟩=some (.string (bg n)):=by rw [← HW.out];simp [go_sem]
 have hkc:W0.cell? ⟨w.heap.size+1,0,none⟩=some (.int .u64 0):=by rw [← HW.out];simp [go_sem]
 have hkd:W0.cell? ⟨w.heap.size+1,1,none⟩=some (.string ⟨#[]⟩):=by rw [← HW.out];simp [go_sem]
 have hke:W0.cell? ⟨w.heap.size+1,2,none⟩=some (.bool false):=by rw [← HW.out];simp [go_sem]
 have hkf:W0.frozen? ⟨w.heap.size+1,0,none⟩=false:=by rw [← HW.out];simp [go_sem]
 have hkg:W0.frozen? ⟨w.heap.size+1,1,none⟩=false:=by rw [← HW.out];simp [go_sem]
 have hkh:W0.frozen? ⟨w.heap.size+1,2,none⟩=false:=by rw [← HW.out];simp [go_sem]
 have h0:=Lib.hid (show Below w.heap.size w W0 by rw [← HW.out];exact (((Below.refl _ _).alloc (Nat.le_refl _) _).alloc (by simp) _).alloc (by simp;omega) _)
 have hlaw:=held W0
 have hlf:=qb_ W0
 have hR:∀ w1:World,Below W0.heap.size W0 w1→w1.cell? ⟨w.heap.size+1+1,0,none⟩=some (.int .u64 ((lo n:Nat):Int))∧w1.cell? ⟨w.heap.size+1+1,1,none⟩=some (.string (bg n)) ∧
   w1.cell? ⟨w.heap.size+1,0,none⟩=some (.int .u64 0)∧w1.cell? ⟨w.heap.size+1,1,none⟩=some (.string ⟨#[]⟩)∧w1.cell? ⟨w.heap.size+1,2,none⟩=some (.bool false) ∧
   w1.frozen? ⟨w.heap.size+1,0,none⟩=false∧w1.frozen? ⟨w.heap.size+1,1,none⟩=false∧w1.frozen? ⟨w.heap.size+1,2,none⟩=false∧Below w.heap.size w w1:=fun w1 hb =>
  ⟨(hlaw w1 hb _ _ hzb).trans hka,(hlaw w1 hb _ _ hzb).trans hkb,(hlaw w1 hb _ _ hza).trans hkc,(hlaw w1 hb _ _ hza).trans hkd,(hlaw w1 hb _ _ hza).trans hke,
   (hlf w1 hb _ _ hza).trans hkf,(hlf w1 hb _ _ hza).trans hkg,(hlf w1 hb _ _ hza).trans hkh,grow h0.out hb⟩
 have HR:=Lib.hid hR
 clear hlaw hlf hR
 cases s
 ·go_enter Tryz.func37,Tryz.ntmps37
  go_wp2_with fail
  rw [HW.out]
  go_region
  go_wp2
  exact bodyPost_ret (v:=.agg #[.int .u64 (lo n),.string (bg n),.bool false]) (by simp [results,Tryz.results37,go_sem,hkc,hkd,hke]) rfl
   ⟨by rw [Bool.false_and],(((h0.out.setCell (by show w.heap.size≤w.heap.size+1;omega) _).setCell (by show w.heap.size≤w.heap.size+1;omega) _).setCell (by show w.heap.size≤w.heap.size+1;omega) _).drew⟩
 go_enter Tryz.func37,Tryz.ntmps37
 go_wp2_with fail
 rw [HW.out]
 go_region_with (first|(go_at_call_of 113 (Value.agg #[.int .u64 (lo n),.string (bg n)]);refine (qn_ n _).mono ?_;rintro e w1 ⟨rfl,hb1⟩; obtain ⟨q1,q2,q3,q4,q5,q6,q7,q8,q9⟩:=HR.out w1 (((Below.refl _ _).drew).trans hb1);have Q9:=Lib.hid q9;clear hb1 q9))
 all_goals
  go_wp2
  exact bodyPost_ret (v:=.agg #[.int .u64 (lo n),.string (bg n),.bool (!decide (n=0))]) (by simp [results,Tryz.results37,go_sem,q3,q4,q5]) rfl
   ⟨by rw [Bool.true_and],((Q9.out.setCell (by show w.heap.size≤w.heap.size+1;omega) _).setCell (by show w.heap.size≤w.heap.size+1;omega) _).setCell (by show w.heap.size≤w.heap.size+1;omega) _⟩
theorem qi2 (s:Bool) (n:Nat):(Value.agg #[.int .u64 (lo n),.string (bg n),.bool (s && !decide (n=0))])=(Value.agg #[.int .u64 (lo (Int.natAbs ((if s then -(n:Int) else (n:Int))))),.string (bg (Int.natAbs ((if s then -(n:Int) else (n:Int))))),.bool (decide (((if s then -(n:Int) else (n:Int)))<0))]):=by
 cases s
 ·have h:¬ ((n:Int)<0):=by omega
  simp [h]
 by_cases h:n=0
 ·simp [h]
 have h1:0<n:=by omega
 simp [h,h1]
theorem qa7 (s:Bool) (n:Nat) (z:Int) (w:World) (hz:(if s then -(n:Int) else (n:Int))=z) :
  Calls Tryz.prog 37 #[.bool s,(Value.agg #[.int .u64 (lo n),.string (bg n)])] w fun e w'=>e=.returned (Value.agg #[.int .u64 (lo z.natAbs),.string (bg z.natAbs),.bool (z<0)])∧Below w.heap.size w w':=by
 subst hz
 rw [← qi2]
 exact qm6 s n w
end
section
open Go.RowKit
theorem qT6 (B:Nat) (W0:World):∀ w':World,Below B W0 w'→∀ b o,b<B→w'.cell? ⟨b,o,none⟩=W0.cell? ⟨b,o,none⟩:=fun _ h b o hb=>h.cell (p:=⟨b,o,none⟩) hb
theorem qV4 (a:Int) (w:World) :
  Calls Tryz.prog 44 #[(Value.agg #[.int .u64 (lo a.natAbs),.string (bg a.natAbs),.bool (a<0)])] w fun e w'=>e=.returned (Value.agg #[.int .u64 (lo (Int.natAbs (-a))),.string (bg (Int.natAbs (-a))),.bool (decide ((-a)<0))])∧Below w.heap.size w w':=by
 obtain ⟨W0,HW⟩:∃ W0,Hid (((w.alloc (.cells #[.int .u64 (lo a.natAbs),.string (bg a.natAbs),.bool (a<0)] 34)).alloc (.cells #[.int .u64 0,.string ⟨#[]⟩,.bool false] 34))=W0):=⟨_,Lib.hid rfl⟩
 have HS:=Lib.hid (show w.heap.size+2=W0.heap.size by rw [← HW.out];simp)
 have z0:w.heap.size<W0.heap.size:=by rw [← HS.out];omega
 have z1:w.heap.size+1<W0.heap.size:=by rw [← HS.out];omega
 have c0_0:W0.cell? ⟨w.heap.size,0,none⟩=some (.int .u64 (lo a.natAbs)):=by rw [← HW.out];simp [go_sem]
 have c0_1:W0.cell? ⟨w.heap.size,1,none⟩=some (.string (bg a.natAbs)):=by rw [← HW.out];simp [go_sem]
 have c0_2:W0.cell? ⟨w.heap.size,2,none⟩=some (.bool (a<0)):=by rw [← HW.out];simp [go_sem]
 have c1_0:W0.cell? ⟨w.heap.size+1,0,none⟩=some (.int .u64 0):=by rw [← HW.out];simp [go_sem]
 have c1_1:W0.cell? ⟨w.heap.size+1,1,none⟩=some (.string ⟨#[]⟩):=by rw [← HW.out];simp [go_sem]
 have c1_2:W0.cell? ⟨w.heap.size+1,2,none⟩=some (.bool false):=by rw [← HW.out];simp [go_sem]
 have f_0:W0.frozen? ⟨w.heap.size+1,0,none⟩=false:=by rw [← HW.out];simp [go_sem]
 have f_1:W0.frozen? ⟨w.heap.size+1,1,none⟩=false:=by rw [← HW.out];simp [go_sem]
 have f_2:W0.frozen? ⟨w.heap.size+1,2,none⟩=false:=by rw [← HW.out];simp [go_sem]
 have hbw:Below w.heap.size w W0:=by rw [← HW.out];exact ((Below.refl _ _).alloc (Nat.le_refl _) _).alloc (by simp) _
 have HR:Hid (∀ w1:World,Below W0.heap.size W0 w1→w1.cell? ⟨w.heap.size,0,none⟩=some (.int .u64 (lo a.natAbs))∧w1.cell? ⟨w.heap.size,1,none⟩=some (.string (bg a.natAbs))∧w1.cell? ⟨w.heap.size,2,none⟩=some (.bool (a<0))∧w1.cell? ⟨w.heap.size+1,0,none⟩=some (.int .u64 0)∧w1.cell? ⟨w.heap.size+1,1,none⟩=some (.string ⟨#[]⟩)∧w1.cell? ⟨w.heap.size+1,2,none⟩=some (.bool false)∧w1.frozen? ⟨w.heap.size+1,0,none⟩=false∧w1.frozen? ⟨w.heap.size+1,1,none⟩=false∧w1.frozen? ⟨w.heap.size+1,2,none⟩=false∧Below w.heap.size w w1):=fun w1 hb=>⟨(held W0 w1 hb _ _ z0).trans c0_0,(held W0 w1 hb _ _ z0).trans c0_1,(held W0 w1 hb _ _ z0).trans c0_2,(held W0 w1 hb _ _ z1).trans c1_0,(held W0 w1 hb _ _ z1).trans c1_1,(held W0 w1 hb _ _ z1).trans c1_2,(qb_ W0 w1 hb _ _ z1).trans f_0,(qb_ W0 w1 hb _ _ z1).trans f_1,(qb_ W0 w1 hb _ _ z1).trans f_2,grow hbw hb⟩
 have HBW:=Lib.hid hbw
 clear hbw
 have hz:(if !decide (a<0) then -((a.natAbs:Nat):Int) else ((a.natAbs:Nat):Int)) = -a:=by
  by_cases h:a<0 <;> simp [h] <;> omega
 have HZ:=Lib.hid hz
 clear hz
 go_enter Tryz.func44,Tryz.ntmps44
 go_wp2_with fail
 rw [HW.out]
 refine (qa7 (!decide (a<0)) a.natAbs (-a) W0 HZ.out).mono ?_
 rintro e w1 ⟨rfl,hb1⟩
 clear c0_0 c0_1 c0_2 c1_0 c1_1 c1_2 f_0 f_1 f_2 HBW;obtain ⟨c0_0,c0_1,c0_2,c1_0,c1_1,c1_2,f_0,f_1,f_2,hbw⟩:=HR.out w1 hb1;have HBW:=Lib.hid hbw;clear hbw
 go_wp2_with fail
 exact bodyPost_ret (v:=(Value.agg #[.int .u64 (lo (Int.natAbs (-a))),.string (bg (Int.natAbs (-a))),.bool (decide ((-a)<0))])) (by simp [results,Tryz.results44,go_sem,c1_0,c1_1,c1_2]) rfl ⟨rfl,by first|exact (((HBW.out).setCell (by show w.heap.size≤w.heap.size+1;omega) _).setCell (by show w.heap.size≤w.heap.size+1;omega) _).setCell (by show w.heap.size≤w.heap.size+1;omega) _|exact ((((HBW.out).setCell (by show w.heap.size≤w.heap.size+1;omega) _).setCell (by show w.heap.size≤w.heap.size+1;omega) _).setCell (by show w.heap.size≤w.heap.size+1;omega) _).drew⟩
theorem qd9 (a:Int) (w:World) :
  Calls Tryz.prog 100 #[(Value.agg #[.int .u64 (lo a.natAbs),.string (bg a.natAbs),.bool (a<0)])] w fun e w'=>e=.returned (Value.agg #[.int .u64 (lo (a.natAbs)),.string (bg (a.natAbs))])∧Below w.heap.size w w':=by
 go_enter Tryz.func100,Tryz.ntmps100
 go_wp2
 exact bodyPost_ret (v:=(Value.agg #[.int .u64 (lo (a.natAbs)),.string (bg (a.natAbs))])) (by simp [results,Tryz.results100,go_sem]) rfl ⟨rfl,((Below.refl _ _).alloc (Nat.le_refl _) _).alloc (by simp) _⟩
def sgI (a:Int):Int:=if a=0 then 0 else if a<0 then -1 else 1
theorem qy1 (a:Int) (w:World) :
  Calls Tryz.prog 101 #[(Value.agg #[.int .u64 (lo a.natAbs),.string (bg a.natAbs),.bool (a<0)])] w fun e w'=>e=.returned (.int .i64 (sgI a))∧Below w.heap.size w w':=by
 obtain ⟨W0,HW⟩:∃ W0,Hid ((w.alloc (.cells #[.int .u64 (lo a.natAbs),.string (bg a.natAbs),.bool (a<0)] 34))=W0):=⟨_,Lib.hid rfl⟩
 have HS:=Lib.hid (show w.heap.size+1=W0.heap.size by rw [← HW.out];simp)
 have z0:w.heap.size<W0.heap.size:=by rw [← HS.out];omega
 have c0_0:W0.cell? ⟨w.heap.size,0,none⟩=some (.int .u64 (lo a.natAbs)):=by rw [← HW.out];simp [go_sem]
 have c0_1:W0.cell? ⟨w.heap.size,1,none⟩=some (.string (bg a.natAbs)):=by rw [← HW.out];simp [go_sem]
 have c0_2:W0.cell? ⟨w.heap.size,2,none⟩=some (.bool (a<0)):=by rw [← HW.out];simp [go_sem]
 have f_0:W0.frozen? ⟨w.heap.size,0,none⟩=false:=by rw [← HW.out];simp [go_sem]
 have f_1:W0.frozen? ⟨w.heap.size,1,none⟩=false:=by rw [← HW.out];simp [go_sem]
 have f_2:W0.frozen? ⟨w.heap.size,2,none⟩=false:=by rw [← HW.out];simp [go_sem]
 have hbw:Below w.heap.size w W0:=by rw [← HW.out];exact (Below.refl _ _).alloc (Nat.le_refl _) _
 have HR:Hid (∀ w1:World,Below W0.heap.size W0 w1→w1.cell? ⟨w.heap.size,0,none⟩=some (.int .u64 (lo a.natAbs))∧w1.cell? ⟨w.heap.size,1,none⟩=some (.string (bg a.natAbs))∧w1.cell? ⟨w.heap.size,2,none⟩=some (.bool (a<0))∧w1.frozen? ⟨w.heap.size,0,none⟩=false∧w1.frozen? ⟨w.heap.size,1,none⟩=false∧w1.frozen? ⟨w.heap.size,2,none⟩=false∧Below w.heap.size w w1):=fun w1 hb=>⟨(held W0 w1 hb _ _ z0).trans c0_0,(held W0 w1 hb _ _ z0).trans c0_1,(held W0 w1 hb _ _ z0).trans c0_2,(qb_ W0 w1 hb _ _ z0).trans f_0,(qb_ W0 w1 hb _ _ z0).trans f_1,(qb_ W0 w1 hb _ _ z0).trans f_2,grow hbw hb⟩
 have HBW:=Lib.hid hbw
 clear hbw
 by_cases h0:a=0
 ·have hd:decide (a=0)=true:=decide_eq_true h0
  have HSG:Hid (sgI a=0):=if_pos h0
  clear h0
  go_enter Tryz.func101,Tryz.ntmps101
  go_wp2_with fail
  rw [HW.out]
  refine (qn_ a.natAbs W0).mono ?_
  rintro e w1 ⟨rfl,hb1⟩
  clear c0_0 c0_1 c0_2 f_0 f_1 f_2 HBW;obtain ⟨c0_0,c0_1,c0_2,f_0,f_1,f_2,hbw⟩:=HR.out w1 hb1;have HBW:=Lib.hid hbw;clear hbw
  go_wp2_with fail
  go_ret
  exact ⟨by rw [HSG.out];rfl,HBW.out⟩
 have hd:decide (a=0)=false:=decide_eq_false h0
 by_cases hn:a<0
 ·have HS1:Hid (decide (a<0)=true):=decide_eq_true hn
  have HSG:Hid (sgI a = -1):=(if_neg h0).trans (if_pos hn)
  clear h0 hn
  go_enter Tryz.func101,Tryz.ntmps101
  go_wp2_with fail
  rw [HW.out]
  refine (qn_ a.natAbs W0).mono ?_
  rintro e w1 ⟨rfl,hb1⟩
  clear c0_0 c0_1 c0_2 f_0 f_1 f_2 HBW;obtain ⟨c0_0,c0_1,c0_2,f_0,f_1,f_2,hbw⟩:=HR.out w1 hb1;have HBW:=Lib.hid hbw;clear hbw
  have hs:=HS1.out
  go_wp2_with fail
  go_ret
  exact ⟨by rw [HSG.out];rfl,HBW.out⟩
 have HS1:Hid (decide (a<0)=false):=decide_eq_false hn
 have HSG:Hid (sgI a=1):=(if_neg h0).trans (if_neg hn)
 clear h0 hn
 go_enter Tryz.func101,Tryz.ntmps101
 go_wp2_with fail
 rw [HW.out]
 refine (qn_ a.natAbs W0).mono ?_
 rintro e w1 ⟨rfl,hb1⟩
 clear c0_0 c0_1 c0_2 f_0 f_1 f_2 HBW;obtain ⟨c0_0,c0_1,c0_2,f_0,f_1,f_2,hbw⟩:=HR.out w1 hb1;have HBW:=Lib.hid hbw;clear hbw
 have hs:=HS1.out
 go_wp2_with fail
 go_ret
 exact ⟨by rw [HSG.out];rfl,HBW.out⟩
theorem qY8 (p q:Bool) (a b:Nat) (w:World) (ha:wl a≤274877906944) (hb:wl b≤274877906944) :
  Calls Tryz.prog 116 #[.agg #[.int .u64 (lo a),.string (bg a),.bool p],.agg #[.int .u64 (lo b),.string (bg b),.bool q]] w fun e w'=>e=.returned (.agg #[.int .u64 (lo (a*b)),.string (bg (a*b)),.bool ((p != q) && !decide (a*b=0))])∧Below w.heap.size w w':=by
 obtain ⟨W0,HW⟩:∃ W0,Hid ((((w.alloc (.cells #[.int .u64 (lo a),.string (bg a),.bool p] 34)).alloc (.cells #[.int .u64 (lo b),.string (bg b),.bool q] 34)).alloc (.cells #[.int .u64 0,.string ⟨#[]⟩,.bool false] 34))=W0):=⟨_,Lib.hid rfl⟩
 have HS:=Lib.hid (show w.heap.size+3=W0.heap.size by rw [← HW.out];simp)
 have z0:w.heap.size<W0.heap.size:=by rw [← HS.out];omega
 have z1:w.heap.size+1<W0.heap.size:=by rw [← HS.out];omega
 have z2:w.heap.size+1+1<W0.heap.size:=by rw [← HS.out];omega
 have c0_0:W0.cell? ⟨w.heap.size,0,none⟩=some (.int .u64 (lo a)):=by rw [← HW.out];simp [go_sem]
 have c0_1:W0.cell? ⟨w.heap.size,1,none⟩=some (.string (bg a)):=by rw [← HW.out];simp [go_sem]
 have c0_2:W0.cell? ⟨w.heap.size,2,none⟩=some (.bool p):=by rw [← HW.out];simp [go_sem]
 have c1_0:W0.cell? ⟨w.heap.size+1,0,none⟩=some (.int .u64 (lo b)):=by rw [← HW.out];simp [go_sem]
 have c1_1:W0.cell? ⟨w.heap.size+1,1,none⟩=some (.string (bg b)):=by rw [← HW.out];simp [go_sem]
 have c1_2:W0.cell? ⟨w.heap.size+1,2,none⟩=some (.bool q):=by rw [← HW.out];simp [go_sem]
 have c2_0:W0.cell? ⟨w.heap.size+1+1,0,none⟩=some (.int .u64 0):=by rw [← HW.out];simp [go_sem]
 have c2_1:W0.cell? ⟨w.heap.size+1+1,1,none⟩=some (.string ⟨#[]⟩):=by rw [← HW.out];simp [go_sem]
 have c2_2:W0.cell? ⟨w.heap.size+1+1,2,none⟩=some (.bool false):=by rw [← HW.out];simp [go_sem]
 have f_0:W0.frozen? ⟨w.heap.size+1+1,0,none⟩=false:=by rw [← HW.out];simp [go_sem]
 have f_1:W0.frozen? ⟨w.heap.size+1+1,1,none⟩=false:=by rw [← HW.out];simp [go_sem]
 have f_2:W0.frozen? ⟨w.heap.size+1+1,2,none⟩=false:=by rw [← HW.out];simp [go_sem]
 have hbw:Below w.heap.size w W0:=by rw [← HW.out];exact (((Below.refl _ _).alloc (Nat.le_refl _) _).alloc (by simp) _).alloc (by simp;omega) _
 have HR:Hid (∀ w1:World,Below W0.heap.size W0 w1→w1.cell? ⟨w.heap.size,0,none⟩=some (.int .u64 (lo a))∧w1.cell? ⟨w.heap.size,1,none⟩=some (.string (bg a))∧w1.cell? ⟨w.heap.size,2,none⟩=some (.bool p)∧w1.cell? ⟨w.heap.size+1,0,none⟩=some (.int .u64 (lo b))∧w1.cell? ⟨w.heap.size+1,1,none⟩=some (.string (bg b))∧w1.cell? ⟨w.heap.size+1,2,none⟩=some (.bool q)∧w1.cell? ⟨w.heap.size+1+1,0,none⟩=some (.int .u64 0)∧w1.cell? ⟨w.heap.size+1+1,1,none⟩=some (.string ⟨#[]⟩)∧w1.cell? ⟨w.heap.size+1+1,2,none⟩=some (.bool false)∧w1.frozen? ⟨w.heap.size+1+1,0,none⟩=false∧w1.frozen? ⟨w.heap.size+1+1,1,none⟩=false∧w1.frozen? ⟨w.heap.size+1+1,2,none⟩=false∧Below w.heap.size w w1):=fun w1 hb=>⟨(held W0 w1 hb _ _ z0).trans c0_0,(held W0 w1 hb _ _ z0).trans c0_1,(held W0 w1 hb _ _ z0).trans c0_2,(held W0 w1 hb _ _ z1).trans c1_0,(held W0 w1 hb _ _ z1).trans c1_1,(held W0 w1 hb _ _ z1).trans c1_2,(held W0 w1 hb _ _ z2).trans c2_0,(held W0 w1 hb _ _ z2).trans c2_1,(held W0 w1 hb _ _ z2).trans c2_2,(qb_ W0 w1 hb _ _ z2).trans f_0,(qb_ W0 w1 hb _ _ z2).trans f_1,(qb_ W0 w1 hb _ _ z2).trans f_2,grow hbw hb⟩
 have HBW:=Lib.hid hbw
 clear hbw
 obtain ⟨P,HP⟩:∃ P,Hid (a*b=P):=⟨_,Lib.hid rfl⟩
 rw [HP.out]
 cases p <;> cases q
 all_goals
  go_enter Tryz.func116,Tryz.ntmps116
  go_wp2_with fail
  rw [HW.out]
  have hlaw:=qT6 (w.heap.size+1+1) W0
  have y0:w.heap.size<w.heap.size+1+1:=by omega
  have y1:w.heap.size+1<w.heap.size+1+1:=by omega
  have HC:Hid (w.heap.size+1+1≤W0.heap.size):=Nat.le_of_lt z2
  go_region_held3 (fun w'=>Below (w.heap.size+1+1) W0 w')
   (first|exact (Below.refl _ _).drew|assumption|exact (((by assumption:Below (w.heap.size+1+1) W0 _).setCell (Nat.le_refl _) _).setCell (Nat.le_refl _) _).setCell (Nat.le_refl _) _)
   (first
   | (go_at_call 110;refine (qp5 a b _ (by omega) (by omega)).mono ?_;rintro e w1 ⟨rfl,hb1⟩; rw [HP.out];have hB1:Hid (Below W0.heap.size W0 w1):=((Below.refl _ _).drew).trans hb1;have hC1:=hB1.out.mono HC.out;clear hb1)
   | (go_at_call 37;refine (qm6 _ P _).mono ?_;rintro e w2 ⟨rfl,hb2⟩; have hB2:Hid (Below W0.heap.size W0 w2):=grow hB1.out hb2;have hC2:=hB2.out.mono HC.out;clear hb2;clear c0_0 c0_1 c0_2 c1_0 c1_1 c1_2 c2_0 c2_1 c2_2 f_0 f_1 f_2 HBW;obtain ⟨c0_0,c0_1,c0_2,c1_0,c1_1,c1_2,c2_0,c2_1,c2_2,f_0,f_1,f_2,hbw⟩:=HR.out w2 (hB2.out);have HBW:=Lib.hid hbw;clear hbw))
  all_goals
   go_wp2
   exact bodyPost_ret (v:=.agg #[.int .u64 (lo P),.string (bg P),.bool _]) (by simp [results,Tryz.results116,go_sem,c2_0,c2_1,c2_2]) rfl ⟨rfl,by first|exact (((HBW.out).setCell (by show w.heap.size≤w.heap.size+1+1;omega) _).setCell (by show w.heap.size≤w.heap.size+1+1;omega) _).setCell (by show w.heap.size≤w.heap.size+1+1;omega) _|exact ((((HBW.out).setCell (by show w.heap.size≤w.heap.size+1+1;omega) _).setCell (by show w.heap.size≤w.heap.size+1+1;omega) _).setCell (by show w.heap.size≤w.heap.size+1+1;omega) _).drew⟩
end
section
open Go.RowKit
theorem qm_ (a:Int):a=if decide (a<0) then -((a.natAbs:Nat):Int) else ((a.natAbs:Nat):Int):=by
 by_cases h:a<0 <;> simp [h] <;> omega
theorem qY7 (a b:Int) (w:World) (ha:wl a.natAbs≤274877906944) (hb:wl b.natAbs≤274877906944) :
  Calls Tryz.prog 116 #[(Value.agg #[.int .u64 (lo a.natAbs),.string (bg a.natAbs),.bool (a<0)]),(Value.agg #[.int .u64 (lo b.natAbs),.string (bg b.natAbs),.bool (b<0)])] w fun e w'=>e=.returned (Value.agg #[.int .u64 (lo (Int.natAbs (a*b))),.string (bg (Int.natAbs (a*b))),.bool (decide ((a*b)<0))])∧Below w.heap.size w w':=by
 have h:=qY8 (decide (a<0)) (decide (b<0)) a.natAbs b.natAbs w ha hb
 rw [qi2] at h
 have e:(if (decide (a<0) != decide (b<0)) then -((a.natAbs*b.natAbs:Nat):Int) else ((a.natAbs*b.natAbs:Nat):Int))=a*b:=by
  conv=>rhs;rw [qm_ a,qm_ b]
  cases decide (a<0) <;> cases decide (b<0) <;> simp [Int.neg_mul,Int.mul_neg]
 rw [e] at h
 exact h
theorem qW0 (p:Bool) (a b:Nat) (w:World) (ha:wl a≤274877906944) (hb:wl b≤274877906944) :
  Calls Tryz.prog 117 #[.agg #[.int .u64 (lo a),.string (bg a),.bool p],.agg #[.int .u64 (lo b),.string (bg b),.bool p]] w fun e w'=>e=.returned (.agg #[.int .u64 (lo (a+b)),.string (bg (a+b)),.bool (p && !decide (a+b=0))])∧Below w.heap.size w w':=by
 obtain ⟨W0,HW⟩:∃ W0,Hid ((((w.alloc (.cells #[.int .u64 (lo a),.string (bg a),.bool p] 34)).alloc (.cells #[.int .u64 (lo b),.string (bg b),.bool p] 34)).alloc (.cells #[.int .u64 0,.string ⟨#[]⟩,.bool false] 34))=W0):=⟨_,Lib.hid rfl⟩
 have HS:=Lib.hid (show w.heap.size+3=W0.heap.size by rw [← HW.out];simp)
 have z0:w.heap.size<W0.heap.size:=by rw [← HS.out];omega
 have z1:w.heap.size+1<W0.heap.size:=by rw [← HS.out];omega
 have z2:w.heap.size+1+1<W0.heap.size:=by rw [← HS.out];omega
 have c0_0:W0.cell? ⟨w.heap.size,0,none⟩=some (.int .u64 (lo a)):=by rw [← HW.out];simp [go_sem]
 have c0_1:W0.cell? ⟨w.heap.size,1,none⟩=some (.string (bg a)):=by rw [← HW.out];simp [go_sem]
 have c0_2:W0.cell? ⟨w.heap.size,2,none⟩=some (.bool p):=by rw [← HW.out];simp [go_sem]
 have c1_0:W0.cell? ⟨w.heap.size+1,0,none⟩=some (.int .u64 (lo b)):=by rw [← HW.out];simp [go_sem]
 have c1_1:W0.cell? ⟨w.heap.size+1,1,none⟩=some (.string (bg b)):=by rw [← HW.out];simp [go_sem]
 have c1_2:W0.cell? ⟨w.heap.size+1,2,none⟩=some (.bool p):=by rw [← HW.out];simp [go_sem]
 have c2_0:W0.cell? ⟨w.heap.size+1+1,0,none⟩=some (.int .u64 0):=by rw [← HW.out];simp [go_sem]
 have c2_1:W0.cell? ⟨w.heap.size+1+1,1,none⟩=some (.string ⟨#[]⟩):=by rw [← HW.out];simp [go_sem]
 have c2_2:W0.cell? ⟨w.heap.size+1+1,2,none⟩=some (.bool false):=by rw [← HW.out];simp [go_sem]
 have f_0:W0.frozen? ⟨w.heap.size+1+1,0,none⟩=false:=by rw [← HW.out];simp [go_sem]
 have f_1:W0.frozen? ⟨w.heap.size+1+1,1,none⟩=false:=by rw [← HW.out];simp [go_sem]
 have f_2:W0.frozen? ⟨w.heap.size+1+1,2,none⟩=false:=by rw [← HW.out];simp [go_sem]
 have hbw:Below w.heap.size w W0:=by rw [← HW.out];exact (((Below.refl _ _).alloc (Nat.le_refl _) _).alloc (by simp) _).alloc (by simp;omega) _
 have HR:Hid (∀ w1:World,Below W0.heap.size W0 w1→w1.cell? ⟨w.heap.size,0,none⟩=some (.int .u64 (lo a))∧w1.cell? ⟨w.heap.size,1,none⟩=some (.string (bg a))∧w1.cell? ⟨w.heap.size,2,none⟩=some (.bool p)∧w1.cell? ⟨w.heap.size+1,0,none⟩=some (.int .u64 (lo b))∧w1.cell? ⟨w.heap.size+1,1,none⟩=some (.string (bg b))∧w1.cell? ⟨w.heap.size+1,2,none⟩=some (.bool p)∧w1.cell? ⟨w.heap.size+1+1,0,none⟩=some (.int .u64 0)∧w1.cell? ⟨w.heap.size+1+1,1,none⟩=some (.string ⟨#[]⟩)∧w1.cell? ⟨w.heap.size+1+1,2,none⟩=some (.bool false)∧w1.frozen? ⟨w.heap.size+1+1,0,none⟩=false∧w1.frozen? ⟨w.heap.size+1+1,1,none⟩=false∧w1.frozen? ⟨w.heap.size+1+1,2,none⟩=false∧Below w.heap.size w w1):=fun w1 hb=>⟨(held W0 w1 hb _ _ z0).trans c0_0,(held W0 w1 hb _ _ z0).trans c0_1,(held W0 w1 hb _ _ z0).trans c0_2,(held W0 w1 hb _ _ z1).trans c1_0,(held W0 w1 hb _ _ z1).trans c1_1,(held W0 w1 hb _ _ z1).trans c1_2,(held W0 w1 hb _ _ z2).trans c2_0,(held W0 w1 hb _ _ z2).trans c2_1,(held W0 w1 hb _ _ z2).trans c2_2,(qb_ W0 w1 hb _ _ z2).trans f_0,(qb_ W0 w1 hb _ _ z2).trans f_1,(qb_ W0 w1 hb _ _ z2).trans f_2,grow hbw hb⟩
 have HBW:=Lib.hid hbw
 clear hbw
 obtain ⟨P,HP⟩:∃ P,Hid (a+b=P):=⟨_,Lib.hid rfl⟩
 rw [HP.out]
 cases p
 all_goals
  go_enter Tryz.func117,Tryz.ntmps117
  go_wp2_with fail
  rw [HW.out]
  have hlaw:=qT6 (w.heap.size+1+1) W0
  have y0:w.heap.size<w.heap.size+1+1:=by omega
  have y1:w.heap.size+1<w.heap.size+1+1:=by omega
  have HC:Hid (w.heap.size+1+1≤W0.heap.size):=Nat.le_of_lt z2
  go_region_held3 (fun w'=>Below (w.heap.size+1+1) W0 w')
   (first|exact (Below.refl _ _).drew|assumption|exact (((by assumption:Below (w.heap.size+1+1) W0 _).setCell (Nat.le_refl _) _).setCell (Nat.le_refl _) _).setCell (Nat.le_refl _) _)
   (first
   | (go_at_call 109;refine (qC1 a b _ (by omega) (by omega)).mono ?_;rintro e w1 ⟨rfl,hb1⟩; rw [HP.out];have hB1:Hid (Below W0.heap.size W0 w1):=((Below.refl _ _).drew).trans hb1;have hC1:=hB1.out.mono HC.out;clear hb1)
   | (go_at_call 37;refine (qm6 _ P _).mono ?_;rintro e w2 ⟨rfl,hb2⟩; have hB2:Hid (Below W0.heap.size W0 w2):=grow hB1.out hb2;have hC2:=hB2.out.mono HC.out;clear hb2;clear c0_0 c0_1 c0_2 c1_0 c1_1 c1_2 c2_0 c2_1 c2_2 f_0 f_1 f_2 HBW;obtain ⟨c0_0,c0_1,c0_2,c1_0,c1_1,c1_2,c2_0,c2_1,c2_2,f_0,f_1,f_2,hbw⟩:=HR.out w2 (hB2.out);have HBW:=Lib.hid hbw;clear hbw))
  all_goals
   go_wp2
   exact bodyPost_ret (v:=.agg #[.int .u64 (lo P),.string (bg P),.bool _]) (by simp [results,Tryz.results117,go_sem,c2_0,c2_1,c2_2]) rfl ⟨rfl,by first|exact (((HBW.out).setCell (by show w.heap.size≤w.heap.size+1+1;omega) _).setCell (by show w.heap.size≤w.heap.size+1+1;omega) _).setCell (by show w.heap.size≤w.heap.size+1+1;omega) _|exact ((((HBW.out).setCell (by show w.heap.size≤w.heap.size+1+1;omega) _).setCell (by show w.heap.size≤w.heap.size+1+1;omega) _).setCell (by show w.heap.size≤w.heap.size+1+1;omega) _).drew⟩
theorem qN4 (p:Bool) (a b:Nat) (w:World) (ha:wl a≤274877906944) (hb:wl b≤274877906944) :
  Calls Tryz.prog 117 #[.agg #[.int .u64 (lo a),.string (bg a),.bool p],.agg #[.int .u64 (lo b),.string (bg b),.bool (!p)]] w fun e w' =>
   e=.returned (if b≤a then .agg #[.int .u64 (lo (a - b)),.string (bg (a - b)),.bool (p && !decide (a - b=0))] else .agg #[.int .u64 (lo (b - a)),.string (bg (b - a)),.bool (!p && !decide (b - a=0))])∧Below w.heap.size w w':=by
 obtain ⟨W0,HW⟩:∃ W0,Hid ((((w.alloc (.cells #[.int .u64 (lo a),.string (bg a),.bool p] 34)).alloc (.cells #[.int .u64 (lo b),.string (bg b),.bool (!p)] 34)).alloc (.cells #[.int .u64 0,.string ⟨#[]⟩,.bool false] 34))=W0):=⟨_,Lib.hid rfl⟩
 have HS:=Lib.hid (show w.heap.size+3=W0.heap.size by rw [← HW.out];simp)
 have z0:w.heap.size<W0.heap.size:=by rw [← HS.out];omega
 have z1:w.heap.size+1<W0.heap.size:=by rw [← HS.out];omega
 have z2:w.heap.size+1+1<W0.heap.size:=by rw [← HS.out];omega
 have c0_0:W0.cell? ⟨w.heap.size,0,none⟩=some (.int .u64 (lo a)):=by rw [← HW.out];simp [go_sem]
 have c0_1:W0.cell? ⟨w.heap.size,1,none⟩=some (.string (bg a)):=by rw [← HW.out];simp [go_sem]
 have c0_2:W0.cell? ⟨w.heap.size,2,none⟩=some (.bool p):=by rw [← HW.out];simp [go_sem]
 have c1_0:W0.cell? ⟨w.heap.size+1,0,none⟩=some (.int .u64 (lo b)):=by rw [← HW.out];simp [go_sem]
 have c1_1:W0.cell? ⟨w.heap.size+1,1,none⟩=some (.string (bg b)):=by rw [← HW.out];simp [go_sem]
 have c1_2:W0.cell? ⟨w.heap.size+1,2,none⟩=some (.bool (!p)):=by rw [← HW.out];simp [go_sem]
 have c2_0:W0.cell? ⟨w.heap.size+1+1,0,none⟩=some (.int .u64 0):=by rw [← HW.out];simp [go_sem]
 have c2_1:W0.cell? ⟨w.heap.size+1+1,1,none⟩=some (.string ⟨#[]⟩):=by rw [← HW.out];simp [go_sem]
 have c2_2:W0.cell? ⟨w.heap.size+1+1,2,none⟩=some (.bool false):=by rw [← HW.out];simp [go_sem]
 have f_0:W0.frozen? ⟨w.heap.size+1+1,0,none⟩=false:=by rw [← HW.out];simp [go_sem]
 have f_1:W0.frozen? ⟨w.heap.size+1+1,1,none⟩=false:=by rw [← HW.out];simp [go_sem]
 have f_2:W0.frozen? ⟨w.heap.size+1+1,2,none⟩=false:=by rw [← HW.out];simp [go_sem]
 have hbw:Below w.heap.size w W0:=by rw [← HW.out];exact (((Below.refl _ _).alloc (Nat.le_refl _) _).alloc (by simp) _).alloc (by simp;omega) _
 have HR:Hid (∀ w1:World,Below W0.heap.size W0 w1→w1.cell? ⟨w.heap.size,0,none⟩=some (.int .u64 (lo a))∧w1.cell? ⟨w.heap.size,1,none⟩=some (.string (bg a))∧w1.cell? ⟨w.heap.size,2,none⟩=some (.bool p)∧w1.cell? ⟨w.heap.size+1,0,none⟩=some (.int .u64 (lo b))∧w1.cell? ⟨w.heap.size+1,1,none⟩=some (.string (bg b))∧w1.cell? ⟨w.heap.size+1,2,none⟩=some (.bool (!p))∧w1.cell? ⟨w.heap.size+1+1,0,none⟩=some (.int .u64 0)∧w1.cell? ⟨w.heap.size+1+1,1,none⟩=some (.string ⟨#[]⟩)∧w1.cell? ⟨w.heap.size+1+1,2,none⟩=some (.bool false)∧w1.frozen? ⟨w.heap.size+1+1,0,none⟩=false∧w1.frozen? ⟨w.heap.size+1+1,1,none⟩=false∧w1.frozen? ⟨w.heap.size+1+1,2,none⟩=false∧Below w.heap.size w w1):=fun w1 hb=>⟨(held W0 w1 hb _ _ z0).trans c0_0,(held W0 w1 hb _ _ z0).trans c0_1,(held W0 w1 hb _ _ z0).trans c0_2,(held W0 w1 hb _ _ z1).trans c1_0,(held W0 w1 hb _ _ z1).trans c1_1,(held W0 w1 hb _ _ z1).trans c1_2,(held W0 w1 hb _ _ z2).trans c2_0,(held W0 w1 hb _ _ z2).trans c2_1,(held W0 w1 hb _ _ z2).trans c2_2,(qb_ W0 w1 hb _ _ z2).trans f_0,(qb_ W0 w1 hb _ _ z2).trans f_1,(qb_ W0 w1 hb _ _ z2).trans f_2,grow hbw hb⟩
 have HBW:=Lib.hid hbw
 clear hbw
 by_cases hab:b≤a
 ·rw [if_pos hab]
  have hd:decide (b≤a)=true:=decide_eq_true hab
  obtain ⟨P,HP⟩:∃ P,Hid (a - b=P):=⟨_,Lib.hid rfl⟩
  rw [HP.out]
  clear hab
  cases p
  all_goals
   simp only [Bool.not_true,Bool.not_false] at *
   go_enter Tryz.func117,Tryz.ntmps117
   go_wp2_with fail
   rw [HW.out]
   refine (qy2 a b W0 (by omega) (by omega)).mono ?_
   rintro e w1 ⟨rfl,hb1⟩
   rw [HP.out]
   clear c0_0 c0_1 c0_2 c1_0 c1_1 c1_2 c2_0 c2_1 c2_2 f_0 f_1 f_2 HBW;obtain ⟨c0_0,c0_1,c0_2,c1_0,c1_1,c1_2,c2_0,c2_1,c2_2,f_0,f_1,f_2,hbw⟩:=HR.out w1 hb1;have HBW:=Lib.hid hbw;clear hbw
   have HB1:=Lib.hid hb1
   have n0:w.heap.size<w1.heap.size:=by have:=hb1.size;omega
   have n1:w.heap.size+1<w1.heap.size:=by have:=hb1.size;omega
   have n2:w.heap.size+1+1<w1.heap.size:=by have:=hb1.size;omega
   clear hb1
   go_wp2_with fail
   refine (qm6 _ P _).mono ?_
   rintro e w2 ⟨rfl,hb2⟩
   have hB2:=grow (HB1.out.alloc HB1.out.size _) hb2
   clear hb2
   clear c0_0 c0_1 c0_2 c1_0 c1_1 c1_2 c2_0 c2_1 c2_2 f_0 f_1 f_2 HBW;obtain ⟨c0_0,c0_1,c0_2,c1_0,c1_1,c1_2,c2_0,c2_1,c2_2,f_0,f_1,f_2,hbw⟩:=HR.out w2 hB2;have HBW:=Lib.hid hbw;clear hbw
   clear hB2
   go_wp2
   exact bodyPost_ret (v:=.agg #[.int .u64 (lo P),.string (bg P),.bool _]) (by simp [results,Tryz.results117,go_sem,c2_0,c2_1,c2_2]) rfl ⟨rfl,by first|exact (((HBW.out).setCell (by show w.heap.size≤w.heap.size+1+1;omega) _).setCell (by show w.heap.size≤w.heap.size+1+1;omega) _).setCell (by show w.heap.size≤w.heap.size+1+1;omega) _|exact ((((HBW.out).setCell (by show w.heap.size≤w.heap.size+1+1;omega) _).setCell (by show w.heap.size≤w.heap.size+1+1;omega) _).setCell (by show w.heap.size≤w.heap.size+1+1;omega) _).drew⟩
 rw [if_neg hab]
 have hd:decide (b≤a)=false:=decide_eq_false hab
 obtain ⟨P,HP⟩:∃ P,Hid (b - a=P):=⟨_,Lib.hid rfl⟩
 rw [HP.out]
 clear hab
 cases p
 all_goals
  simp only [Bool.not_true,Bool.not_false] at *
  go_enter Tryz.func117,Tryz.ntmps117
  go_wp2_with fail
  rw [HW.out]
  refine (qy2 a b W0 (by omega) (by omega)).mono ?_
  rintro e w1 ⟨rfl,hb1⟩
  clear c0_0 c0_1 c0_2 c1_0 c1_1 c1_2 c2_0 c2_1 c2_2 f_0 f_1 f_2 HBW;obtain ⟨c0_0,c0_1,c0_2,c1_0,c1_1,c1_2,c2_0,c2_1,c2_2,f_0,f_1,f_2,hbw⟩:=HR.out w1 hb1;have HBW:=Lib.hid hbw;clear hbw
  have HB1:=Lib.hid hb1
  have n0:w.heap.size<w1.heap.size:=by have:=hb1.size;omega
  have n1:w.heap.size+1<w1.heap.size:=by have:=hb1.size;omega
  have n2:w.heap.size+1+1<w1.heap.size:=by have:=hb1.size;omega
  clear hb1
  go_wp2_with fail
  refine (qy2 b a _ (by omega) (by omega)).mono ?_
  rintro e w2 ⟨rfl,hb2⟩
  rw [HP.out]
  have hB2:=grow (HB1.out.alloc HB1.out.size _) hb2
  clear hb2
  clear c0_0 c0_1 c0_2 c1_0 c1_1 c1_2 c2_0 c2_1 c2_2 f_0 f_1 f_2 HBW;obtain ⟨c0_0,c0_1,c0_2,c1_0,c1_1,c1_2,c2_0,c2_1,c2_2,f_0,f_1,f_2,hbw⟩:=HR.out w2 hB2;have HBW:=Lib.hid hbw;clear hbw
  have HB2:=Lib.hid hB2
  have n3:w.heap.size<w2.heap.size:=by have:=hB2.size;omega
  have n4:w.heap.size+1<w2.heap.size:=by have:=hB2.size;omega
  have n5:w.heap.size+1+1<w2.heap.size:=by have:=hB2.size;omega
  clear hB2
  go_wp2_with fail
  refine (qm6 _ P _).mono ?_
  rintro e w3 ⟨rfl,hb3⟩
  have hB3:=grow (HB2.out.alloc HB2.out.size _) hb3
  clear hb3
  clear c0_0 c0_1 c0_2 c1_0 c1_1 c1_2 c2_0 c2_1 c2_2 f_0 f_1 f_2 HBW;obtain ⟨c0_0,c0_1,c0_2,c1_0,c1_1,c1_2,c2_0,c2_1,c2_2,f_0,f_1,f_2,hbw⟩:=HR.out w3 hB3;have HBW:=Lib.hid hbw;clear hbw
  clear hB3
  go_wp2
  exact bodyPost_ret (v:=.agg #[.int .u64 (lo P),.string (bg P),.bool _]) (by simp [results,Tryz.results117,go_sem,c2_0,c2_1,c2_2]) rfl ⟨rfl,by first|exact (((HBW.out).setCell (by show w.heap.size≤w.heap.size+1+1;omega) _).setCell (by show w.heap.size≤w.heap.size+1+1;omega) _).setCell (by show w.heap.size≤w.heap.size+1+1;omega) _|exact ((((HBW.out).setCell (by show w.heap.size≤w.heap.size+1+1;omega) _).setCell (by show w.heap.size≤w.heap.size+1+1;omega) _).setCell (by show w.heap.size≤w.heap.size+1+1;omega) _).drew⟩
end
section
open Go.RowKit
theorem xg4 (a b:Int) (w:World) (ha:wl a.natAbs≤274877906944) (hb:wl b.natAbs≤274877906944) :
  Calls Tryz.prog 117 #[(Value.agg #[.int .u64 (lo a.natAbs),.string (bg a.natAbs),.bool (a<0)]),(Value.agg #[.int .u64 (lo b.natAbs),.string (bg b.natAbs),.bool (b<0)])] w fun e w'=>e=.returned (Value.agg #[.int .u64 (lo (Int.natAbs (a+b))),.string (bg (Int.natAbs (a+b))),.bool (decide ((a+b)<0))])∧Below w.heap.size w w':=by
 have ea:=qm_ a
 have eb:=qm_ b
 by_cases hs:decide (b<0)=decide (a<0)
 ·have h:=qW0 (decide (a<0)) a.natAbs b.natAbs w ha hb
  rw [qi2] at h
  have e:(if decide (a<0) then -((a.natAbs+b.natAbs:Nat):Int) else ((a.natAbs+b.natAbs:Nat):Int))=a+b:=by
   by_cases h1:a<0 <;> by_cases h2:b<0 <;> simp [h1,h2] at hs ⊢ <;> omega
  rw [e] at h
  rw [hs]
  exact h
 have hs2:decide (b<0) = !decide (a<0):=by
  by_cases h1:a<0 <;> by_cases h2:b<0 <;> simp [h1,h2] at hs ⊢
 have h:=qN4 (decide (a<0)) a.natAbs b.natAbs w ha hb
 rw [hs2]
 by_cases hab:b.natAbs≤a.natAbs
 ·rw [if_pos hab,qi2] at h
  have e:(if decide (a<0) then -((a.natAbs - b.natAbs:Nat):Int) else ((a.natAbs - b.natAbs:Nat):Int))=a+b:=by
   by_cases h1:a<0 <;> by_cases h2:b<0 <;> simp [h1,h2] at hs ⊢ <;> omega
  rw [e] at h
  exact h
 rw [if_neg hab,qi2] at h
 have e:(if !decide (a<0) then -((b.natAbs - a.natAbs:Nat):Int) else ((b.natAbs - a.natAbs:Nat):Int))=a+b:=by
  by_cases h1:a<0 <;> by_cases h2:b<0 <;> simp [h1,h2] at hs ⊢ <;> omega
 rw [e] at h
 exact h
theorem qB4 (a b:Int) (w:World) (ha:wl a.natAbs≤274877906944) (hb:wl b.natAbs≤274877906944) :
  Calls Tryz.prog 115 #[.func (.func 117) #[] #[],(Value.agg #[.int .u64 (lo a.natAbs),.string (bg a.natAbs),.bool (a<0)]),(Value.agg #[.int .u64 (lo b.natAbs),.string (bg b.natAbs),.bool (b<0)])] w fun e w'=>e=.returned (Value.agg #[.int .u64 (lo (Int.natAbs (a+b))),.string (bg (Int.natAbs (a+b))),.bool (decide ((a+b)<0))])∧Below w.heap.size w w':=by
 obtain ⟨W0,HW⟩:∃ W0,Hid ((((w.alloc (.cells #[.int .u64 (lo a.natAbs),.string (bg a.natAbs),.bool (a<0)] 34)).alloc (.cells #[.int .u64 (lo b.natAbs),.string (bg b.natAbs),.bool (b<0)] 34)).alloc (.cells #[.int .u64 0,.string ⟨#[]⟩,.bool false] 34))=W0):=⟨_,Lib.hid rfl⟩
 have HS:=Lib.hid (show w.heap.size+3=W0.heap.size by rw [← HW.out];simp)
 have z0:w.heap.size<W0.heap.size:=by rw [← HS.out];omega
 have z1:w.heap.size+1<W0.heap.size:=by rw [← HS.out];omega
 have z2:w.heap.size+1+1<W0.heap.size:=by rw [← HS.out];omega
 have c0_0:W0.cell? ⟨w.heap.size,0,none⟩=some (.int .u64 (lo a.natAbs)):=by rw [← HW.out];simp [go_sem]
 have c0_1:W0.cell? ⟨w.heap.size,1,none⟩=some (.string (bg a.natAbs)):=by rw [← HW.out];simp [go_sem]
 have c0_2:W0.cell? ⟨w.heap.size,2,none⟩=some (.bool (a<0)):=by rw [← HW.out];simp [go_sem]
 have c1_0:W0.cell? ⟨w.heap.size+1,0,none⟩=some (.int .u64 (lo b.natAbs)):=by rw [← HW.out];simp [go_sem]
 have c1_1:W0.cell? ⟨w.heap.size+1,1,none⟩=some (.string (bg b.natAbs)):=by rw [← HW.out];simp [go_sem]
 have c1_2:W0.cell? ⟨w.heap.size+1,2,none⟩=some (.bool (b<0)):=by rw [← HW.out];simp [go_sem]
 have c2_0:W0.cell? ⟨w.heap.size+1+1,0,none⟩=some (.int .u64 0):=by rw [← HW.out];simp [go_sem]
 have c2_1:W0.cell? ⟨w.heap.size+1+1,1,none⟩=some (.string ⟨#[]⟩):=by rw [← HW.out];simp [go_sem]
 have c2_2:W0.cell? ⟨w.heap.size+1+1,2,none⟩=some (.bool false):=by rw [← HW.out];simp [go_sem]
 have f_0:W0.frozen? ⟨w.heap.size+1+1,0,none⟩=false:=by rw [← HW.out];simp [go_sem]
 have f_1:W0.frozen? ⟨w.heap.size+1+1,1,none⟩=false:=by rw [← HW.out];simp [go_sem]
 have f_2:W0.frozen? ⟨w.heap.size+1+1,2,none⟩=false:=by rw [← HW.out];simp [go_sem]
 have hbw:Below w.heap.size w W0:=by rw [← HW.out];exact (((Below.refl _ _).alloc (Nat.le_refl _) _).alloc (by simp) _).alloc (by simp;omega) _
 have HR:Hid (∀ w1:World,Below W0.heap.size W0 w1→w1.cell? ⟨w.heap.size,0,none⟩=some (.int .u64 (lo a.natAbs))∧w1.cell? ⟨w.heap.size,1,none⟩=some (.string (bg a.natAbs))∧w1.cell? ⟨w.heap.size,2,none⟩=some (.bool (a<0))∧w1.cell? ⟨w.heap.size+1,0,none⟩=some (.int .u64 (lo b.natAbs))∧w1.cell? ⟨w.heap.size+1,1,none⟩=some (.string (bg b.natAbs))∧w1.cell? ⟨w.heap.size+1,2,none⟩=some (.bool (b<0))∧w1.cell? ⟨w.heap.size+1+1,0,none⟩=some (.int .u64 0)∧w1.cell? ⟨w.heap.size+1+1,1,none⟩=some (.string ⟨#[]⟩)∧w1.cell? ⟨w.heap.size+1+1,2,none⟩=some (.bool false)∧w1.frozen? ⟨w.heap.size+1+1,0,none⟩=false∧w1.frozen? ⟨w.heap.size+1+1,1,none⟩=false∧w1.frozen? ⟨w.heap.size+1+1,2,none⟩=false∧Below w.heap.size w w1):=fun w1 hb=>⟨(held W0 w1 hb _ _ z0).trans c0_0,(held W0 w1 hb _ _ z0).trans c0_1,(held W0 w1 hb _ _ z0).trans c0_2,(held W0 w1 hb _ _ z1).trans c1_0,(held W0 w1 hb _ _ z1).trans c1_1,(held W0 w1 hb _ _ z1).trans c1_2,(held W0 w1 hb _ _ z2).trans c2_0,(held W0 w1 hb _ _ z2).trans c2_1,(held W0 w1 hb _ _ z2).trans c2_2,(qb_ W0 w1 hb _ _ z2).trans f_0,(qb_ W0 w1 hb _ _ z2).trans f_1,(qb_ W0 w1 hb _ _ z2).trans f_2,grow hbw hb⟩
 have HBW:=Lib.hid hbw
 clear hbw
 obtain ⟨z,HZ⟩:∃ z,Hid (a+b=z):=⟨_,Lib.hid rfl⟩
 rw [HZ.out]
 go_enter Tryz.func115,Tryz.ntmps115
 go_wp2_with fail
 rw [HW.out]
 refine (xg4 a b W0 ha hb).mono ?_
 rintro e w1 ⟨rfl,hb1⟩
 rw [HZ.out]
 clear c0_0 c0_1 c0_2 c1_0 c1_1 c1_2 c2_0 c2_1 c2_2 f_0 f_1 f_2 HBW;obtain ⟨c0_0,c0_1,c0_2,c1_0,c1_1,c1_2,c2_0,c2_1,c2_2,f_0,f_1,f_2,hbw⟩:=HR.out w1 hb1;have HBW:=Lib.hid hbw;clear hbw
 clear hb1
 go_wp2
 exact bodyPost_ret (v:=(Value.agg #[.int .u64 (lo z.natAbs),.string (bg z.natAbs),.bool (z<0)])) (by simp [results,Tryz.results115,go_sem,c2_0,c2_1,c2_2]) rfl ⟨rfl,by first|exact (((HBW.out).setCell (by show w.heap.size≤w.heap.size+1+1;omega) _).setCell (by show w.heap.size≤w.heap.size+1+1;omega) _).setCell (by show w.heap.size≤w.heap.size+1+1;omega) _|exact ((((HBW.out).setCell (by show w.heap.size≤w.heap.size+1+1;omega) _).setCell (by show w.heap.size≤w.heap.size+1+1;omega) _).setCell (by show w.heap.size≤w.heap.size+1+1;omega) _).drew⟩
theorem qO8 (a b:Int) (w:World) (ha:wl a.natAbs≤274877906944) (hb:wl b.natAbs≤274877906944) :
  Calls Tryz.prog 115 #[.func (.func 116) #[] #[],(Value.agg #[.int .u64 (lo a.natAbs),.string (bg a.natAbs),.bool (a<0)]),(Value.agg #[.int .u64 (lo b.natAbs),.string (bg b.natAbs),.bool (b<0)])] w fun e w'=>e=.returned (Value.agg #[.int .u64 (lo (Int.natAbs (a*b))),.string (bg (Int.natAbs (a*b))),.bool (decide ((a*b)<0))])∧Below w.heap.size w w':=by
 obtain ⟨W0,HW⟩:∃ W0,Hid ((((w.alloc (.cells #[.int .u64 (lo a.natAbs),.string (bg a.natAbs),.bool (a<0)] 34)).alloc (.cells #[.int .u64 (lo b.natAbs),.string (bg b.natAbs),.bool (b<0)] 34)).alloc (.cells #[.int .u64 0,.string ⟨#[]⟩,.bool false] 34))=W0):=⟨_,Lib.hid rfl⟩
 have HS:=Lib.hid (show w.heap.size+3=W0.heap.size by rw [← HW.out];simp)
 have z0:w.heap.size<W0.heap.size:=by rw [← HS.out];omega
 have z1:w.heap.size+1<W0.heap.size:=by rw [← HS.out];omega
 have z2:w.heap.size+1+1<W0.heap.size:=by rw [← HS.out];omega
 have c0_0:W0.cell? ⟨w.heap.size,0,none⟩=some (.int .u64 (lo a.natAbs)):=by rw [← HW.out];simp [go_sem]
 have c0_1:W0.cell? ⟨w.heap.size,1,none⟩=some (.string (bg a.natAbs)):=by rw [← HW.out];simp [go_sem]
 have c0_2:W0.cell? ⟨w.heap.size,2,none⟩=some (.bool (a<0)):=by rw [← HW.out];simp [go_sem]
 have c1_0:W0.cell? ⟨w.heap.size+1,0,none⟩=some (.int .u64 (lo b.natAbs)):=by rw [← HW.out];simp [go_sem]
 have c1_1:W0.cell? ⟨w.heap.size+1,1,none⟩=some (.string (bg b.natAbs)):=by rw [← HW.out];simp [go_sem]
 have c1_2:W0.cell? ⟨w.heap.size+1,2,none⟩=some (.bool (b<0)):=by rw [← HW.out];simp [go_sem]
 have c2_0:W0.cell? ⟨w.heap.size+1+1,0,none⟩=some (.int .u64 0):=by rw [← HW.out];simp [go_sem]
 have c2_1:W0.cell? ⟨w.heap.size+1+1,1,none⟩=some (.string ⟨#[]⟩):=by rw [← HW.out];simp [go_sem]
 have c2_2:W0.cell? ⟨w.heap.size+1+1,2,none⟩=some (.bool false):=by rw [← HW.out];simp [go_sem]
 have f_0:W0.frozen? ⟨w.heap.size+1+1,0,none⟩=false:=by rw [← HW.out];simp [go_sem]
 have f_1:W0.frozen? ⟨w.heap.size+1+1,1,none⟩=false:=by rw [← HW.out];simp [go_sem]
 have f_2:W0.frozen? ⟨w.heap.size+1+1,2,none⟩=false:=by rw [← HW.out];simp [go_sem]
 have hbw:Below w.heap.size w W0:=by rw [← HW.out];exact (((Below.refl _ _).alloc (Nat.le_refl _) _).alloc (by simp) _).alloc (by simp;omega) _
 have HR:Hid (∀ w1:World,Below W0.heap.size W0 w1→w1.cell? ⟨w.heap.size,0,none⟩=some (.int .u64 (lo a.natAbs))∧w1.cell? ⟨w.heap.size,1,none⟩=some (.string (bg a.natAbs))∧w1.cell? ⟨w.heap.size,2,none⟩=some (.bool (a<0))∧w1.cell? ⟨w.heap.size+1,0,none⟩=some (.int .u64 (lo b.natAbs))∧w1.cell? ⟨w.heap.size+1,1,none⟩=some (.string (bg b.natAbs))∧w1.cell? ⟨w.heap.size+1,2,none⟩=some (.bool (b<0))∧w1.cell? ⟨w.heap.size+1+1,0,none⟩=some (.int .u64 0)∧w1.cell? ⟨w.heap.size+1+1,1,none⟩=some (.string ⟨#[]⟩)∧w1.cell? ⟨w.heap.size+1+1,2,none⟩=some (.bool false)∧w1.frozen? ⟨w.heap.size+1+1,0,none⟩=false∧w1.frozen? ⟨w.heap.size+1+1,1,none⟩=false∧w1.frozen? ⟨w.heap.size+1+1,2,none⟩=false∧Below w.heap.size w w1):=fun w1 hb=>⟨(held W0 w1 hb _ _ z0).trans c0_0,(held W0 w1 hb _ _ z0).trans c0_1,(held W0 w1 hb _ _ z0).trans c0_2,(held W0 w1 hb _ _ z1).trans c1_0,(held W0 w1 hb _ _ z1).trans c1_1,(held W0 w1 hb _ _ z1).trans c1_2,(held W0 w1 hb _ _ z2).trans c2_0,(held W0 w1 hb _ _ z2).trans c2_1,(held W0 w1 hb _ _ z2).trans c2_2,(qb_ W0 w1 hb _ _ z2).trans f_0,(qb_ W0 w1 hb _ _ z2).trans f_1,(qb_ W0 w1 hb _ _ z2).trans f_2,grow hbw hb⟩
 have HBW:=Lib.hid hbw
 clear hbw
 obtain ⟨z,HZ⟩:∃ z,Hid (a*b=z):=⟨_,Lib.hid rfl⟩
 rw [HZ.out]
 go_enter Tryz.func115,Tryz.ntmps115
 go_wp2_with fail
 rw [HW.out]
 refine (qY7 a b W0 ha hb).mono ?_
 rintro e w1 ⟨rfl,hb1⟩
 rw [HZ.out]
 clear c0_0 c0_1 c0_2 c1_0 c1_1 c1_2 c2_0 c2_1 c2_2 f_0 f_1 f_2 HBW;obtain ⟨c0_0,c0_1,c0_2,c1_0,c1_1,c1_2,c2_0,c2_1,c2_2,f_0,f_1,f_2,hbw⟩:=HR.out w1 hb1;have HBW:=Lib.hid hbw;clear hbw
 clear hb1
 go_wp2
 exact bodyPost_ret (v:=(Value.agg #[.int .u64 (lo z.natAbs),.string (bg z.natAbs),.bool (z<0)])) (by simp [results,Tryz.results115,go_sem,c2_0,c2_1,c2_2]) rfl ⟨rfl,by first|exact (((HBW.out).setCell (by show w.heap.size≤w.heap.size+1+1;omega) _).setCell (by show w.heap.size≤w.heap.size+1+1;omega) _).setCell (by show w.heap.size≤w.heap.size+1+1;omega) _|exact ((((HBW.out).setCell (by show w.heap.size≤w.heap.size+1+1;omega) _).setCell (by show w.heap.size≤w.heap.size+1+1;omega) _).setCell (by show w.heap.size≤w.heap.size+1+1;omega) _).drew⟩
theorem xe4 (a b:Int) (w:World) (ha:wl a.natAbs≤274877906944) (hb:wl b.natAbs≤274877906944) :
  Calls Tryz.prog 41 #[(Value.agg #[.int .u64 (lo a.natAbs),.string (bg a.natAbs),.bool (a<0)]),(Value.agg #[.int .u64 (lo b.natAbs),.string (bg b.natAbs),.bool (b<0)])] w fun e w'=>e=.returned (Value.agg #[.int .u64 (lo (Int.natAbs (a+b))),.string (bg (Int.natAbs (a+b))),.bool (decide ((a+b)<0))])∧Below w.heap.size w w':=by
 obtain ⟨W0,HW⟩:∃ W0,Hid ((((w.alloc (.cells #[.int .u64 (lo a.natAbs),.string (bg a.natAbs),.bool (a<0)] 34)).alloc (.cells #[.int .u64 (lo b.natAbs),.string (bg b.natAbs),.bool (b<0)] 34)).alloc (.cells #[.int .u64 0,.string ⟨#[]⟩,.bool false] 34))=W0):=⟨_,Lib.hid rfl⟩
 have HS:=Lib.hid (show w.heap.size+3=W0.heap.size by rw [← HW.out];simp)
 have z0:w.heap.size<W0.heap.size:=by rw [← HS.out];omega
 have z1:w.heap.size+1<W0.heap.size:=by rw [← HS.out];omega
 have z2:w.heap.size+1+1<W0.heap.size:=by rw [← HS.out];omega
 have c0_0:W0.cell? ⟨w.heap.size,0,none⟩=some (.int .u64 (lo a.natAbs)):=by rw [← HW.out];simp [go_sem]
 have c0_1:W0.cell? ⟨w.heap.size,1,none⟩=some (.string (bg a.natAbs)):=by rw [← HW.out];simp [go_sem]
 have c0_2:W0.cell? ⟨w.heap.size,2,none⟩=some (.bool (a<0)):=by rw [← HW.out];simp [go_sem]
 have c1_0:W0.cell? ⟨w.heap.size+1,0,none⟩=some (.int .u64 (lo b.natAbs)):=by rw [← HW.out];simp [go_sem]
 have c1_1:W0.cell? ⟨w.heap.size+1,1,none⟩=some (.string (bg b.natAbs)):=by rw [← HW.out];simp [go_sem]
 have c1_2:W0.cell? ⟨w.heap.size+1,2,none⟩=some (.bool (b<0)):=by rw [← HW.out];simp [go_sem]
 have c2_0:W0.cell? ⟨w.heap.size+1+1,0,none⟩=some (.int .u64 0):=by rw [← HW.out];simp [go_sem]
 have c2_1:W0.cell? ⟨w.heap.size+1+1,1,none⟩=some (.string ⟨#[]⟩):=by rw [← HW.out];simp [go_sem]
 have c2_2:W0.cell? ⟨w.heap.size+1+1,2,none⟩=some (.bool false):=by rw [← HW.out];simp [go_sem]
 have f_0:W0.frozen? ⟨w.heap.size+1+1,0,none⟩=false:=by rw [← HW.out];simp [go_sem]
 have f_1:W0.frozen? ⟨w.heap.size+1+1,1,none⟩=false:=by rw [← HW.out];simp [go_sem]
 have f_2:W0.frozen? ⟨w.heap.size+1+1,2,none⟩=false:=by rw [← HW.out];simp [go_sem]
 have hbw:Below w.heap.size w W0:=by rw [← HW.out];exact (((Below.refl _ _).alloc (Nat.le_refl _) _).alloc (by simp) _).alloc (by simp;omega) _
 have HR:Hid (∀ w1:World,Below W0.heap.size W0 w1→w1.cell? ⟨w.heap.size,0,none⟩=some (.int .u64 (lo a.natAbs))∧w1.cell? ⟨w.heap.size,1,none⟩=some (.string (bg a.natAbs))∧w1.cell? ⟨w.heap.size,2,none⟩=some (.bool (a<0))∧w1.cell? ⟨w.heap.size+1,0,none⟩=some (.int .u64 (lo b.natAbs))∧w1.cell? ⟨w.heap.size+1,1,none⟩=some (.string (bg b.natAbs))∧w1.cell? ⟨w.heap.size+1,2,none⟩=some (.bool (b<0))∧w1.cell? ⟨w.heap.size+1+1,0,none⟩=some (.int .u64 0)∧w1.cell? ⟨w.heap.size+1+1,1,none⟩=some (.string ⟨#[]⟩)∧w1.cell? ⟨w.heap.size+1+1,2,none⟩=some (.bool false)∧w1.frozen? ⟨w.heap.size+1+1,0,none⟩=false∧w1.frozen? ⟨w.heap.size+1+1,1,none⟩=false∧w1.frozen? ⟨w.heap.size+1+1,2,none⟩=false∧Below w.heap.size w w1):=fun w1 hb=>⟨(held W0 w1 hb _ _ z0).trans c0_0,(held W0 w1 hb _ _ z0).trans c0_1,(held W0 w1 hb _ _ z0).trans c0_2,(held W0 w1 hb _ _ z1).trans c1_0,(held W0 w1 hb _ _ z1).trans c1_1,(held W0 w1 hb _ _ z1).trans c1_2,(held W0 w1 hb _ _ z2).trans c2_0,(held W0 w1 hb _ _ z2).trans c2_1,(held W0 w1 hb _ _ z2).trans c2_2,(qb_ W0 w1 hb _ _ z2).trans f_0,(qb_ W0 w1 hb _ _ z2).trans f_1,(qb_ W0 w1 hb _ _ z2).trans f_2,grow hbw hb⟩
 have HBW:=Lib.hid hbw
 clear hbw
 obtain ⟨z,HZ⟩:∃ z,Hid (a+b=z):=⟨_,Lib.hid rfl⟩
 rw [HZ.out]
 go_enter Tryz.func41,Tryz.ntmps41
 go_wp2_with fail
 rw [HW.out]
 refine (qB4 a b W0 ha hb).mono ?_
 rintro e w1 ⟨rfl,hb1⟩
 rw [HZ.out]
 clear c0_0 c0_1 c0_2 c1_0 c1_1 c1_2 c2_0 c2_1 c2_2 f_0 f_1 f_2 HBW;obtain ⟨c0_0,c0_1,c0_2,c1_0,c1_1,c1_2,c2_0,c2_1,c2_2,f_0,f_1,f_2,hbw⟩:=HR.out w1 hb1;have HBW:=Lib.hid hbw;clear hbw
 clear hb1
 go_wp2
 exact bodyPost_ret (v:=(Value.agg #[.int .u64 (lo z.natAbs),.string (bg z.natAbs),.bool (z<0)])) (by simp [results,Tryz.results41,go_sem,c2_0,c2_1,c2_2]) rfl ⟨rfl,by first|exact (((HBW.out).setCell (by show w.heap.size≤w.heap.size+1+1;omega) _).setCell (by show w.heap.size≤w.heap.size+1+1;omega) _).setCell (by show w.heap.size≤w.heap.size+1+1;omega) _|exact ((((HBW.out).setCell (by show w.heap.size≤w.heap.size+1+1;omega) _).setCell (by show w.heap.size≤w.heap.size+1+1;omega) _).setCell (by show w.heap.size≤w.heap.size+1+1;omega) _).drew⟩
theorem xe7 (a b:Int) (w:World) (ha:wl a.natAbs≤274877906944) (hb:wl b.natAbs≤274877906944) :
  Calls Tryz.prog 39 #[(Value.agg #[.int .u64 (lo a.natAbs),.string (bg a.natAbs),.bool (a<0)]),(Value.agg #[.int .u64 (lo b.natAbs),.string (bg b.natAbs),.bool (b<0)])] w fun e w'=>e=.returned (Value.agg #[.int .u64 (lo (Int.natAbs (a*b))),.string (bg (Int.natAbs (a*b))),.bool (decide ((a*b)<0))])∧Below w.heap.size w w':=by
 obtain ⟨W0,HW⟩:∃ W0,Hid ((((w.alloc (.cells #[.int .u64 (lo a.natAbs),.string (bg a.natAbs),.bool (a<0)] 34)).alloc (.cells #[.int .u64 (lo b.natAbs),.string (bg b.natAbs),.bool (b<0)] 34)).alloc (.cells #[.int .u64 0,.string ⟨#[]⟩,.bool false] 34))=W0):=⟨_,Lib.hid rfl⟩
 have HS:=Lib.hid (show w.heap.size+3=W0.heap.size by rw [← HW.out];simp)
 have z0:w.heap.size<W0.heap.size:=by rw [← HS.out];omega
 have z1:w.heap.size+1<W0.heap.size:=by rw [← HS.out];omega
 have z2:w.heap.size+1+1<W0.heap.size:=by rw [← HS.out];omega
 have c0_0:W0.cell? ⟨w.heap.size,0,none⟩=some (.int .u64 (lo a.natAbs)):=by rw [← HW.out];simp [go_sem]
 have c0_1:W0.cell? ⟨w.heap.size,1,none⟩=some (.string (bg a.natAbs)):=by rw [← HW.out];simp [go_sem]
 have c0_2:W0.cell? ⟨w.heap.size,2,none⟩=some (.bool (a<0)):=by rw [← HW.out];simp [go_sem]
 have c1_0:W0.cell? ⟨w.heap.size+1,0,none⟩=some (.int .u64 (lo b.natAbs)):=by rw [← HW.out];simp [go_sem]
 have c1_1:W0.cell? ⟨w.heap.size+1,1,none⟩=some (.string (bg b.natAbs)):=by rw [← HW.out];simp [go_sem]
 have c1_2:W0.cell? ⟨w.heap.size+1,2,none⟩=some (.bool (b<0)):=by rw [← HW.out];simp [go_sem]
 have c2_0:W0.cell? ⟨w.heap.size+1+1,0,none⟩=some (.int .u64 0):=by rw [← HW.out];simp [go_sem]
 have c2_1:W0.cell? ⟨w.heap.size+1+1,1,none⟩=some (.string ⟨#[]⟩):=by rw [← HW.out];simp [go_sem]
 have c2_2:W0.cell? ⟨w.heap.size+1+1,2,none⟩=some (.bool false):=by rw [← HW.out];simp [go_sem]
 have f_0:W0.frozen? ⟨w.heap.size+1+1,0,none⟩=false:=by rw [← HW.out];simp [go_sem]
 have f_1:W0.frozen? ⟨w.heap.size+1+1,1,none⟩=false:=by rw [← HW.out];simp [go_sem]
 have f_2:W0.frozen? ⟨w.heap.size+1+1,2,none⟩=false:=by rw [← HW.out];simp [go_sem]
 have hbw:Below w.heap.size w W0:=by rw [← HW.out];exact (((Below.refl _ _).alloc (Nat.le_refl _) _).alloc (by simp) _).alloc (by simp;omega) _
 have HR:Hid (∀ w1:World,Below W0.heap.size W0 w1→w1.cell? ⟨w.heap.size,0,none⟩=some (.int .u64 (lo a.natAbs))∧w1.cell? ⟨w.heap.size,1,none⟩=some (.string (bg a.natAbs))∧w1.cell? ⟨w.heap.size,2,none⟩=some (.bool (a<0))∧w1.cell? ⟨w.heap.size+1,0,none⟩=some (.int .u64 (lo b.natAbs))∧w1.cell? ⟨w.heap.size+1,1,none⟩=some (.string (bg b.natAbs))∧w1.cell? ⟨w.heap.size+1,2,none⟩=some (.bool (b<0))∧w1.cell? ⟨w.heap.size+1+1,0,none⟩=some (.int .u64 0)∧w1.cell? ⟨w.heap.size+1+1,1,none⟩=some (.string ⟨#[]⟩)∧w1.cell? ⟨w.heap.size+1+1,2,none⟩=some (.bool false)∧w1.frozen? ⟨w.heap.size+1+1,0,none⟩=false∧w1.frozen? ⟨w.heap.size+1+1,1,none⟩=false∧w1.frozen? ⟨w.heap.size+1+1,2,none⟩=false∧Below w.heap.size w w1):=fun w1 hb=>⟨(held W0 w1 hb _ _ z0).trans c0_0,(held W0 w1 hb _ _ z0).trans c0_1,(held W0 w1 hb _ _ z0).trans c0_2,(held W0 w1 hb _ _ z1).trans c1_0,(held W0 w1 hb _ _ z1).trans c1_1,(held W0 w1 hb _ _ z1).trans c1_2,(held W0 w1 hb _ _ z2).trans c2_0,(held W0 w1 hb _ _ z2).trans c2_1,(held W0 w1 hb _ _ z2).trans c2_2,(qb_ W0 w1 hb _ _ z2).trans f_0,(qb_ W0 w1 hb _ _ z2).trans f_1,(qb_ W0 w1 hb _ _ z2).trans f_2,grow hbw hb⟩
 have HBW:=Lib.hid hbw
 clear hbw
 obtain ⟨z,HZ⟩:∃ z,Hid (a*b=z):=⟨_,Lib.hid rfl⟩
 rw [HZ.out]
 go_enter Tryz.func39,Tryz.ntmps39
 go_wp2_with fail
 rw [HW.out]
 refine (qO8 a b W0 ha hb).mono ?_
 rintro e w1 ⟨rfl,hb1⟩
 rw [HZ.out]
 clear c0_0 c0_1 c0_2 c1_0 c1_1 c1_2 c2_0 c2_1 c2_2 f_0 f_1 f_2 HBW;obtain ⟨c0_0,c0_1,c0_2,c1_0,c1_1,c1_2,c2_0,c2_1,c2_2,f_0,f_1,f_2,hbw⟩:=HR.out w1 hb1;have HBW:=Lib.hid hbw;clear hbw
 clear hb1
 go_wp2
 exact bodyPost_ret (v:=(Value.agg #[.int .u64 (lo z.natAbs),.string (bg z.natAbs),.bool (z<0)])) (by simp [results,Tryz.results39,go_sem,c2_0,c2_1,c2_2]) rfl ⟨rfl,by first|exact (((HBW.out).setCell (by show w.heap.size≤w.heap.size+1+1;omega) _).setCell (by show w.heap.size≤w.heap.size+1+1;omega) _).setCell (by show w.heap.size≤w.heap.size+1+1;omega) _|exact ((((HBW.out).setCell (by show w.heap.size≤w.heap.size+1+1;omega) _).setCell (by show w.heap.size≤w.heap.size+1+1;omega) _).setCell (by show w.heap.size≤w.heap.size+1+1;omega) _).drew⟩
end
section
open Go.RowKit
theorem qI1 (a b:Int) (w:World) (ha:wl a.natAbs≤274877906944) (hb:wl b.natAbs≤274877906944) :
  Calls Tryz.prog 98 #[(Value.agg #[.int .u64 (lo a.natAbs),.string (bg a.natAbs),.bool (a<0)]),(Value.agg #[.int .u64 (lo b.natAbs),.string (bg b.natAbs),.bool (b<0)])] w fun e w'=>e=.returned (Value.agg #[.int .u64 (lo (Int.natAbs (a - b))),.string (bg (Int.natAbs (a - b))),.bool (decide ((a - b)<0))])∧Below w.heap.size w w':=by
 obtain ⟨W0,HW⟩:∃ W0,Hid ((((w.alloc (.cells #[.int .u64 (lo a.natAbs),.string (bg a.natAbs),.bool (a<0)] 34)).alloc (.cells #[.int .u64 (lo b.natAbs),.string (bg b.natAbs),.bool (b<0)] 34)).alloc (.cells #[.int .u64 0,.string ⟨#[]⟩,.bool false] 34))=W0):=⟨_,Lib.hid rfl⟩
 have HS:=Lib.hid (show w.heap.size+3=W0.heap.size by rw [← HW.out];simp)
 have z0:w.heap.size<W0.heap.size:=by rw [← HS.out];omega
 have z1:w.heap.size+1<W0.heap.size:=by rw [← HS.out];omega
 have z2:w.heap.size+1+1<W0.heap.size:=by rw [← HS.out];omega
 have c0_0:W0.cell? ⟨w.heap.size,0,none⟩=some (.int .u64 (lo a.natAbs)):=by rw [← HW.out];simp [go_sem]
 have c0_1:W0.cell? ⟨w.heap.size,1,none⟩=some (.string (bg a.natAbs)):=by rw [← HW.out];simp [go_sem]
 have c0_2:W0.cell? ⟨w.heap.size,2,none⟩=some (.bool (a<0)):=by rw [← HW.out];simp [go_sem]
 have c1_0:W0.cell? ⟨w.heap.size+1,0,none⟩=some (.int .u64 (lo b.natAbs)):=by rw [← HW.out];simp [go_sem]
 have c1_1:W0.cell? ⟨w.heap.size+1,1,none⟩=some (.string (bg b.natAbs)):=by rw [← HW.out];simp [go_sem]
 have c1_2:W0.cell? ⟨w.heap.size+1,2,none⟩=some (.bool (b<0)):=by rw [← HW.out];simp [go_sem]
 have c2_0:W0.cell? ⟨w.heap.size+1+1,0,none⟩=some (.int .u64 0):=by rw [← HW.out];simp [go_sem]
 have c2_1:W0.cell? ⟨w.heap.size+1+1,1,none⟩=some (.string ⟨#[]⟩):=by rw [← HW.out];simp [go_sem]
 have c2_2:W0.cell? ⟨w.heap.size+1+1,2,none⟩=some (.bool false):=by rw [← HW.out];simp [go_sem]
 have f_0:W0.frozen? ⟨w.heap.size+1+1,0,none⟩=false:=by rw [← HW.out];simp [go_sem]
 have f_1:W0.frozen? ⟨w.heap.size+1+1,1,none⟩=false:=by rw [← HW.out];simp [go_sem]
 have f_2:W0.frozen? ⟨w.heap.size+1+1,2,none⟩=false:=by rw [← HW.out];simp [go_sem]
 have hbw:Below w.heap.size w W0:=by rw [← HW.out];exact (((Below.refl _ _).alloc (Nat.le_refl _) _).alloc (by simp) _).alloc (by simp;omega) _
 have HR:Hid (∀ w1:World,Below W0.heap.size W0 w1→w1.cell? ⟨w.heap.size,0,none⟩=some (.int .u64 (lo a.natAbs))∧w1.cell? ⟨w.heap.size,1,none⟩=some (.string (bg a.natAbs))∧w1.cell? ⟨w.heap.size,2,none⟩=some (.bool (a<0))∧w1.cell? ⟨w.heap.size+1,0,none⟩=some (.int .u64 (lo b.natAbs))∧w1.cell? ⟨w.heap.size+1,1,none⟩=some (.string (bg b.natAbs))∧w1.cell? ⟨w.heap.size+1,2,none⟩=some (.bool (b<0))∧w1.cell? ⟨w.heap.size+1+1,0,none⟩=some (.int .u64 0)∧w1.cell? ⟨w.heap.size+1+1,1,none⟩=some (.string ⟨#[]⟩)∧w1.cell? ⟨w.heap.size+1+1,2,none⟩=some (.bool false)∧w1.frozen? ⟨w.heap.size+1+1,0,none⟩=false∧w1.frozen? ⟨w.heap.size+1+1,1,none⟩=false∧w1.frozen? ⟨w.heap.size+1+1,2,none⟩=false∧Below w.heap.size w w1):=fun w1 hb=>⟨(held W0 w1 hb _ _ z0).trans c0_0,(held W0 w1 hb _ _ z0).trans c0_1,(held W0 w1 hb _ _ z0).trans c0_2,(held W0 w1 hb _ _ z1).trans c1_0,(held W0 w1 hb _ _ z1).trans c1_1,(held W0 w1 hb _ _ z1).trans c1_2,(held W0 w1 hb _ _ z2).trans c2_0,(held W0 w1 hb _ _ z2).trans c2_1,(held W0 w1 hb _ _ z2).trans c2_2,(qb_ W0 w1 hb _ _ z2).trans f_0,(qb_ W0 w1 hb _ _ z2).trans f_1,(qb_ W0 w1 hb _ _ z2).trans f_2,grow hbw hb⟩
 have HBW:=Lib.hid hbw
 clear hbw
 obtain ⟨z,HZ⟩:∃ z,Hid (a + -b=z):=⟨_,Lib.hid rfl⟩
 rw [show a - b=z from by rw [← HZ.out];omega]
 have HNB:Hid (wl (-b).natAbs≤274877906944):=by
  show wl (-b).natAbs≤274877906944
  rw [Int.natAbs_neg];exact hb
 obtain ⟨c,HC1⟩:∃ c,Hid (-b=c):=⟨_,Lib.hid rfl⟩
 rw [HC1.out] at HZ HNB
 go_enter Tryz.func98,Tryz.ntmps98
 go_wp2_with fail
 rw [HW.out]
 have hlaw:=qT6 (w.heap.size+1+1) W0
 have y0:w.heap.size<w.heap.size+1+1:=by omega
 have y1:w.heap.size+1<w.heap.size+1+1:=by omega
 have HC:Hid (w.heap.size+1+1≤W0.heap.size):=Nat.le_of_lt z2
 go_region_held3 (fun w'=>Below (w.heap.size+1+1) W0 w')
  (first|exact (Below.refl _ _).drew|assumption|exact (((by assumption:Below (w.heap.size+1+1) W0 _).setCell (Nat.le_refl _) _).setCell (Nat.le_refl _) _).setCell (Nat.le_refl _) _)
  (first
  | (go_at_call 44;refine (qV4 b _).mono ?_;rintro e w1 ⟨rfl,hb1⟩; rw [HC1.out];have hB1:Hid (Below W0.heap.size W0 w1):=((Below.refl _ _).drew).trans hb1;have hC1:=hB1.out.mono HC.out;clear hb1)
  | (go_at_call 115;refine (qB4 a c _ ha HNB.out).mono ?_;rintro e w2 ⟨rfl,hb2⟩; rw [HZ.out];have hB2:Hid (Below W0.heap.size W0 w2):=grow hB1.out hb2;have hC2:=hB2.out.mono HC.out;clear hb2;clear c0_0 c0_1 c0_2 c1_0 c1_1 c1_2 c2_0 c2_1 c2_2 f_0 f_1 f_2 HBW;obtain ⟨c0_0,c0_1,c0_2,c1_0,c1_1,c1_2,c2_0,c2_1,c2_2,f_0,f_1,f_2,hbw⟩:=HR.out w2 (hB2.out);have HBW:=Lib.hid hbw;clear hbw))
 all_goals
  go_wp2
  exact bodyPost_ret (v:=(Value.agg #[.int .u64 (lo z.natAbs),.string (bg z.natAbs),.bool (z<0)])) (by simp [results,Tryz.results98,go_sem,c2_0,c2_1,c2_2]) rfl ⟨rfl,by first|exact (((HBW.out).setCell (by show w.heap.size≤w.heap.size+1+1;omega) _).setCell (by show w.heap.size≤w.heap.size+1+1;omega) _).setCell (by show w.heap.size≤w.heap.size+1+1;omega) _|exact ((((HBW.out).setCell (by show w.heap.size≤w.heap.size+1+1;omega) _).setCell (by show w.heap.size≤w.heap.size+1+1;omega) _).setCell (by show w.heap.size≤w.heap.size+1+1;omega) _).drew⟩
theorem xe5 (a b:Int) (w:World) (ha:wl a.natAbs≤274877906944) (hb:wl b.natAbs≤274877906944) :
  Calls Tryz.prog 217 #[(Value.agg #[.int .u64 (lo a.natAbs),.string (bg a.natAbs),.bool (a<0)]),(Value.agg #[.int .u64 (lo b.natAbs),.string (bg b.natAbs),.bool (b<0)])] w fun e w'=>e=.returned (.int .i64 (sgI (a - b)))∧Below w.heap.size w w':=by
 obtain ⟨W0,HW⟩:∃ W0,Hid (((w.alloc (.cells #[.int .u64 (lo a.natAbs),.string (bg a.natAbs),.bool (a<0)] 34)).alloc (.cells #[.int .u64 (lo b.natAbs),.string (bg b.natAbs),.bool (b<0)] 34))=W0):=⟨_,Lib.hid rfl⟩
 have HS:=Lib.hid (show w.heap.size+2=W0.heap.size by rw [← HW.out];simp)
 have z0:w.heap.size<W0.heap.size:=by rw [← HS.out];omega
 have z1:w.heap.size+1<W0.heap.size:=by rw [← HS.out];omega
 have c0_0:W0.cell? ⟨w.heap.size,0,none⟩=some (.int .u64 (lo a.natAbs)):=by rw [← HW.out];simp [go_sem]
 have c0_1:W0.cell? ⟨w.heap.size,1,none⟩=some (.string (bg a.natAbs)):=by rw [← HW.out];simp [go_sem]
 have c0_2:W0.cell? ⟨w.heap.size,2,none⟩=some (.bool (a<0)):=by rw [← HW.out];simp [go_sem]
 have c1_0:W0.cell? ⟨w.heap.size+1,0,none⟩=some (.int .u64 (lo b.natAbs)):=by rw [← HW.out];simp [go_sem]
 have c1_1:W0.cell? ⟨w.heap.size+1,1,none⟩=some (.string (bg b.natAbs)):=by rw [← HW.out];simp [go_sem]
 have c1_2:W0.cell? ⟨w.heap.size+1,2,none⟩=some (.bool (b<0)):=by rw [← HW.out];simp [go_sem]
 have f_0:W0.frozen? ⟨w.heap.size+1,0,none⟩=false:=by rw [← HW.out];simp [go_sem]
 have f_1:W0.frozen? ⟨w.heap.size+1,1,none⟩=false:=by rw [← HW.out];simp [go_sem]
 have f_2:W0.frozen? ⟨w.heap.size+1,2,none⟩=false:=by rw [← HW.out];simp [go_sem]
 have hbw:Below w.heap.size w W0:=by rw [← HW.out];exact ((Below.refl _ _).alloc (Nat.le_refl _) _).alloc (by simp) _
 have HR:Hid (∀ w1:World,Below W0.heap.size W0 w1→w1.cell? ⟨w.heap.size,0,none⟩=some (.int .u64 (lo a.natAbs))∧w1.cell? ⟨w.heap.size,1,none⟩=some (.string (bg a.natAbs))∧w1.cell? ⟨w.heap.size,2,none⟩=some (.bool (a<0))∧w1.cell? ⟨w.heap.size+1,0,none⟩=some (.int .u64 (lo b.natAbs))∧w1.cell? ⟨w.heap.size+1,1,none⟩=some (.string (bg b.natAbs))∧w1.cell? ⟨w.heap.size+1,2,none⟩=some (.bool (b<0))∧w1.frozen? ⟨w.heap.size+1,0,none⟩=false∧w1.frozen? ⟨w.heap.size+1,1,none⟩=false∧w1.frozen? ⟨w.heap.size+1,2,none⟩=false∧Below w.heap.size w w1):=fun w1 hb=>⟨(held W0 w1 hb _ _ z0).trans c0_0,(held W0 w1 hb _ _ z0).trans c0_1,(held W0 w1 hb _ _ z0).trans c0_2,(held W0 w1 hb _ _ z1).trans c1_0,(held W0 w1 hb _ _ z1).trans c1_1,(held W0 w1 hb _ _ z1).trans c1_2,(qb_ W0 w1 hb _ _ z1).trans f_0,(qb_ W0 w1 hb _ _ z1).trans f_1,(qb_ W0 w1 hb _ _ z1).trans f_2,grow hbw hb⟩
 have HBW:=Lib.hid hbw
 clear hbw
 obtain ⟨z,HZ⟩:∃ z,Hid (a - b=z):=⟨_,Lib.hid rfl⟩
 rw [HZ.out]
 go_enter Tryz.func217,Tryz.ntmps217
 go_wp2_with fail
 rw [HW.out]
 refine (qI1 a b W0 ha hb).mono ?_
 rintro e w1 ⟨rfl,hb1⟩
 rw [HZ.out]
 have HB1:=Lib.hid hb1
 clear hb1
 go_wp2_with fail
 refine (qy1 z w1).mono ?_
 rintro e w2 ⟨rfl,hb2⟩
 have hB2:=grow HB1.out hb2
 clear hb2
 clear c0_0 c0_1 c0_2 c1_0 c1_1 c1_2 f_0 f_1 f_2 HBW;obtain ⟨c0_0,c0_1,c0_2,c1_0,c1_1,c1_2,f_0,f_1,f_2,hbw⟩:=HR.out w2 hB2;have HBW:=Lib.hid hbw;clear hbw
 clear hB2
 go_wp2
 go_ret
 exact ⟨rfl,HBW.out⟩
end
end Go.Proofs.YtobojnodohjiaaaGreatDoor
