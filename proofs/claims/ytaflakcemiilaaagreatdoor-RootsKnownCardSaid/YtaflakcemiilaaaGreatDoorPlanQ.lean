
/- A plan's check that goes through the operations once, in their order: for regions of many operations (the kernel walks it in little memory). Condition: the Bool 'regionQ' of the region's own edges. -/
import Derived.Test.YtaflakcemiilaaaGreatDoorRot1
import Derived.Test.YtaflakcemiilaaaGreatDoorHp
import Derived.Test.YtaflakcemiilaaaGreatDoorIntE
import Derived.Test.YtaflakcemiilaaaGreatDoorPL
import Derived.Maps.AppendAt
import Derived.Test.YtaflakcemiilaaaGreatDoorRot2
import Derived.Test.YtaflakcemiilaaaGreatDoorPC
set_option maxRecDepth 100000
set_option maxHeartbeats 16000000
set_option linter.unusedVariables false
set_option linter.unusedSimpArgs false
namespace Go.Proofs.YtaflakcemiilaaaGreatDoor
open Go.RowKit
attribute [local go_sem ↓] Go.wp_at_zero Go.wp_at_succ
attribute [local go_sem ↓] qd6 qa7 qf4
attribute [local go_sem ↓] qk3 qe7
theorem xb4 (a q:Rat) (n d:Nat) (w:World) (HN:Hid (rt a.num.natAbs=n)) (HD:Hid (rt a.den=d)) (HD0:Hid (0<d)) (HQ:Hid (mkRat ((n:Nat):Int) d=q)) (HSQ:Hid (q*q=a)) (hs:sz a≤1000) :
  Calls Tryz.prog 33 #[(Value.agg #[.int .u64 (lo a.num.natAbs),.string (bg a.num.natAbs),.bool (a.num<0),.int .u64 (lo (a.den - 1)),.string (bg (a.den - 1))])] w fun e w'=>e=.returned (.tuple #[(.agg #[.int .u64 (lo q.num.natAbs),.string (bg q.num.natAbs),.bool (q.num<0),.int .u64 (lo (q.den - 1)),.string (bg (q.den - 1))]),.bool true])∧Below w.heap.size w w':=by
 have hn_a:wl a.num.natAbs≤1000:=Nat.le_trans (qd1 a) hs
 have hd_a:wl (a.den)≤1000:=Nat.le_trans (qc9 a) hs
 go_enter Tryz.func33,Tryz.ntmps33
 have I:=lh_ (hp0 w)
 refine kS fun K O=>?_
 refine wp_region_lit ?_
 go_wp2
 refine kF_ O (((I.out).aL (w.heap.size)).aL (w.heap.size+1)) fun Wx0 J=>?_;clear O K
 clear I;have I:=J;clear J
 generalize w.heap.size+1=gx1 at *
 have su1:wl a.num.natAbs≤1000:=Nat.le_trans (qd1 _) om
 have HZ2:Hid (rt a.num.natAbs=n):=lh_ (HN.out)
 have su2:wl n≤1000:=by have e:=HZ2.out;first|omega|(rw [← e];have:=qb4 (qm6 a.num.natAbs);omega)
 have HZ3:Hid ((if false then -((n:Nat):Int) else ((n:Nat):Int))=((n:Nat):Int)):=lh_ (by rfl)
 have su3:wl (Int.natAbs (((n:Nat):Int)))≤1000:=by have e:=HZ3.out;first|omega|(rw [← e];split <;> simp <;> omega)
 have su4:wl (a.den)≤1000:=Nat.le_trans (qc9 _) om
 have sp4:0<(a).den:=(a).den_pos
 have HZ5:Hid (rt (a.den)=d):=lh_ (HD.out)
 have su5:wl d≤1000:=by have e:=HZ5.out;first|omega|(rw [← e];have:=qb4 (qm6 (a.den));omega)
 have HZ6:Hid (mkRat (((n:Nat):Int)) d=q):=lh_ (HQ.out)
 have su6:sz q≤1000:=by have e:=HZ6.out;first|omega|(rw [← e];exact qe8 (k:=1000) om om (by decide))
 have lx0:=c0_ I
 refine kS fun K O=>?_
 refine qa2 13 [12] [11] (fun _=>4) (fun _=>.cells #[.int .u64 0,.string ⟨#[]⟩,.bool false,.int .u64 0,.string ⟨#[]⟩] 36) [(true,0),(true,5),(true,1),(true,2),(true,3),(true,4),(true,6),(true,7),(true,8),(true,9),(true,10),(true,11)] (by kernel_rfl) (by kernel_rfl) (by intro i hi;simp only [List.mem_cons,List.not_mem_nil,or_false] at hi;rcases hi with rfl <;> exact ⟨_,rfl,rfl,rfl,by simp,fun ρ w=>by kernel_rfl⟩) (by intro i hi;simp only [List.mem_cons,List.not_mem_nil,or_false] at hi;rcases hi with rfl <;> exact ⟨_,rfl,qb9⟩) (fun _ _ _ _ _ h=>h) (fun T Y=>?_)
 refine tk2_ ?_
 refine ck Tryz.call118 (fun w' hw=>qJ9 a _) ?_
 refine ck Tryz.call114 (fun w' hw=>qj4 (a.num) _) ?_
 refine ck Tryz.call117 (fun w' hw=>qD0 a.num.natAbs n _ HZ2.out om) ?_
 refine ck Tryz.call113 (fun w' hw=>qc4 false n (((n:Nat):Int)) _ HZ3.out) ?_
 refine ck Tryz.call119 (fun w' hw=>qG9 a _ om) ?_
 refine ck Tryz.call117 (fun w' hw=>qD0 (a.den) d _ HZ5.out om) ?_
 refine ck Tryz.call116 (fun w' hw=>qk2 (((n:Nat):Int)) d q _ (lh_ HZ6.out) (by exact HD0.out) om om) ?_
 refine tk3_ ?_
 refine qa1 (Y.out _ _ ?_)
 intro G vw1 hg hf
 simp only [puts,Act.put,lA,lB,lC,lD,lE,↓reduceIte,Nat.reduceEqDiff]
 have J:=lh_ (I.out.fr hg hf (zs:=[(#[.int .u64 0,.string ⟨#[]⟩,.bool false,.int .u64 0,.string ⟨#[]⟩],36)]) rfl (by decide) (by decide))
 simp only [zq1_,zq2_,zq3_,zq4_,lF,lG] at J
 clear Y T I hg hf lx0
 generalize G 12=gx3 at *
 have lx3:=c2_ J;have fx3:=f2_ J
 have r0:=Gr.refl vw1
 go_wp2
 refine kO O ?_;clear O K
 clear r0 lx3 fx3
 refine fH ((((J.out).put2 2 0 rfl).put2 2 2 rfl).put 2 4 _ rfl) fun Wx1 I=>?_
 clear J
 refine wp_seq ?_
 have HZ7:Hid (q*(q)=a):=lh_ (HSQ.out)
 have su7:sz a≤2000:=by have e:=HZ7.out;first|omega|(rw [← e];have:=qb0 q q;omega)
 have lx0:=c0_ I
 have lx3:=c2_ I
 refine kS fun K O=>?_
 refine xx7 fun T Y=>?_
 refine tk2_ ?_
 refine ck Tryz.call37 (fun w' hw=>qa3 q a _ (lh_ HZ7.out) om) ?_
 refine nlD Y I fun vw2 J=>?_
 clear Y T I lx0 lx3
 go_wp2
 refine kF_ O ((J.out).er 0) fun Wx2 I=>?_;clear O K
 clear J
 refine wp_cond_false (by rfl) ?_
 refine wp_skip ?_
 show Code.wp _ _ _ _ _
 have lx3:=c1_ I
 refine ks1_ fun K O T Y=>?_
 refine tk ?_
 refine nlS Y I fun vw3 J=>?_
 clear Y T I lx3
 have lx1:=c0_ J;have fx1:=f0_ J
 have r0:=Gr.refl vw3
 go_wp2
 refine kO O ?_;clear O K
 clear r0 lx1 fx1
 refine fH (((((J.out).put2 0 0 rfl).put2 0 2 rfl).put 0 4 _ rfl).er 1) fun Wx4 I=>?_
 clear J
 refine wp_ret ?_
 try simp only [Exit.then,Exit.inBlock]
 have lx1:=c0_ I
 have r0:=Gr.refl Wx4
 exact bodyPost_ret (v:=.tuple #[(.agg #[.int .u64 (lo q.num.natAbs),.string (bg q.num.natAbs),.bool (q.num<0),.int .u64 (lo (q.den - 1)),.string (bg (q.den - 1))]),.bool true]) (by simp [results,Tryz.results33,go_sem,lx1 _ r0]) rfl ⟨rfl,I.out.1⟩
theorem xc_ (a q:Rat) (n d:Nat) (w:World) (HN:Hid (rt a.num.natAbs=n)) (HD:Hid (rt a.den=d)) (HD0:Hid (0<d)) (HQ:Hid (mkRat ((n:Nat):Int) d=q)) (HSQ:Hid (¬ q*q=a)) (hs:sz a≤1000) :
  Calls Tryz.prog 33 #[(Value.agg #[.int .u64 (lo a.num.natAbs),.string (bg a.num.natAbs),.bool (a.num<0),.int .u64 (lo (a.den - 1)),.string (bg (a.den - 1))])] w fun e w'=>e=.returned ((.tuple #[(.agg #[.int .u64 0,.string ⟨#[]⟩,.bool false,.int .u64 0,.string ⟨#[]⟩]),.bool false]))∧Below w.heap.size w w':=by
 have hn_a:wl a.num.natAbs≤1000:=Nat.le_trans (qd1 a) hs
 have hd_a:wl (a.den)≤1000:=Nat.le_trans (qc9 a) hs
 go_enter Tryz.func33,Tryz.ntmps33
 have I:=lh_ (hp0 w)
 refine kS fun K O=>?_
 refine wp_region_lit ?_
 go_wp2
 refine kF_ O (((I.out).aL (w.heap.size)).aL (w.heap.size+1)) fun Wx0 J=>?_;clear O K
 clear I;have I:=J;clear J
 generalize w.heap.size+1=gx1 at *
 have su1:wl a.num.natAbs≤1000:=Nat.le_trans (qd1 _) om
 have HZ2:Hid (rt a.num.natAbs=n):=lh_ (HN.out)
 have su2:wl n≤1000:=by have e:=HZ2.out;first|omega|(rw [← e];have:=qb4 (qm6 a.num.natAbs);omega)
 have HZ3:Hid ((if false then -((n:Nat):Int) else ((n:Nat):Int))=((n:Nat):Int)):=lh_ (by rfl)
 have su3:wl (Int.natAbs (((n:Nat):Int)))≤1000:=by have e:=HZ3.out;first|omega|(rw [← e];split <;> simp <;> omega)
 have su4:wl (a.den)≤1000:=Nat.le_trans (qc9 _) om
 have sp4:0<(a).den:=(a).den_pos
 have HZ5:Hid (rt (a.den)=d):=lh_ (HD.out)
 have su5:wl d≤1000:=by have e:=HZ5.out;first|omega|(rw [← e];have:=qb4 (qm6 (a.den));omega)
 have HZ6:Hid (mkRat (((n:Nat):Int)) d=q):=lh_ (HQ.out)
 have su6:sz q≤1000:=by have e:=HZ6.out;first|omega|(rw [← e];exact qe8 (k:=1000) om om (by decide))
 have lx0:=c0_ I
 refine kS fun K O=>?_
 refine qa2 13 [12] [11] (fun _=>4) (fun _=>.cells #[.int .u64 0,.string ⟨#[]⟩,.bool false,.int .u64 0,.string ⟨#[]⟩] 36) [(true,0),(true,5),(true,1),(true,2),(true,3),(true,4),(true,6),(true,7),(true,8),(true,9),(true,10),(true,11)] (by kernel_rfl) (by kernel_rfl) (by intro i hi;simp only [List.mem_cons,List.not_mem_nil,or_false] at hi;rcases hi with rfl <;> exact ⟨_,rfl,rfl,rfl,by simp,fun ρ w=>by kernel_rfl⟩) (by intro i hi;simp only [List.mem_cons,List.not_mem_nil,or_false] at hi;rcases hi with rfl <;> exact ⟨_,rfl,qb9⟩) (fun _ _ _ _ _ h=>h) (fun T Y=>?_)
 refine tk2_ ?_
 refine ck Tryz.call118 (fun w' hw=>qJ9 a _) ?_
 refine ck Tryz.call114 (fun w' hw=>qj4 (a.num) _) ?_
 refine ck Tryz.call117 (fun w' hw=>qD0 a.num.natAbs n _ HZ2.out om) ?_
 refine ck Tryz.call113 (fun w' hw=>qc4 false n (((n:Nat):Int)) _ HZ3.out) ?_
 refine ck Tryz.call119 (fun w' hw=>qG9 a _ om) ?_
 refine ck Tryz.call117 (fun w' hw=>qD0 (a.den) d _ HZ5.out om) ?_
 refine ck Tryz.call116 (fun w' hw=>qk2 (((n:Nat):Int)) d q _ (lh_ HZ6.out) (by exact HD0.out) om om) ?_
 refine tk3_ ?_
 refine qa1 (Y.out _ _ ?_)
 intro G vw1 hg hf
 simp only [puts,Act.put,lA,lB,lC,lD,lE,↓reduceIte,Nat.reduceEqDiff]
 have J:=lh_ (I.out.fr hg hf (zs:=[(#[.int .u64 0,.string ⟨#[]⟩,.bool false,.int .u64 0,.string ⟨#[]⟩],36)]) rfl (by decide) (by decide))
 simp only [zq1_,zq2_,zq3_,zq4_,lF,lG] at J
 clear Y T I hg hf lx0
 generalize G 12=gx3 at *
 have lx3:=c2_ J;have fx3:=f2_ J
 have r0:=Gr.refl vw1
 go_wp2
 refine kO O ?_;clear O K
 clear r0 lx3 fx3
 refine fH ((((J.out).put2 2 0 rfl).put2 2 2 rfl).put 2 4 _ rfl) fun Wx1 I=>?_
 clear J
 refine wp_seq ?_
 obtain ⟨u7,HZ7⟩:∃ z,Hid (q*(q)=z):=⟨_,lh_ rfl⟩
 have su7:sz u7≤2000:=by rw [← HZ7.out];have:=qb0 q q;omega
 have lx0:=c0_ I
 have lx3:=c2_ I
 refine kS fun K O=>?_
 refine xx7 fun T Y=>?_
 refine tk2_ ?_
 refine ck Tryz.call37 (fun w' hw=>qa3 q u7 _ (lh_ HZ7.out) om) ?_
 refine nlD Y I fun vw2 J=>?_
 clear Y T I lx0 lx3
 have hd1:decide (u7=a)=false:=decide_eq_false (by first|exact ok|exact HSQ.out|(simp only [← HZ7.out] <;> first|exact ok|exact HSQ.out))
 go_wp2
 refine kF_ O ((J.out).er 0) fun Wx2 I=>?_;clear O K
 clear J
 clear hd1
 refine wp_cond_true (by rfl) ?_
 refine ks1_ fun K O T Y=>?_
 refine tk ?_
 refine nlS Y I fun vw3 J=>?_
 clear Y T I
 have lx1:=c0_ J;have fx1:=f0_ J
 have r0:=Gr.refl vw3
 go_wp2
 refine kO O ?_;clear O K
 clear r0 lx1 fx1
 refine fH ((((J.out).put2 0 0 rfl).put2 0 2 rfl).put 0 4 _ rfl) fun Wx3 I=>?_
 clear J
 refine wp_ret ?_
 try simp only [Exit.then,Exit.inBlock]
 have lx1:=c0_ I
 have r0:=Gr.refl Wx3
 exact bodyPost_ret (v:=.tuple #[(.agg #[.int .u64 0,.string ⟨#[]⟩,.bool false,.int .u64 0,.string ⟨#[]⟩]),.bool false]) (by simp [results,Tryz.results33,go_sem,lx1 _ r0]) rfl ⟨rfl,I.out.1⟩
theorem ql8 {a:Rat} {M:Nat} (h:sz a≤M):sz (exq a)≤M:=by
 unfold exq
 have h1:=qb4 (qm6 (Int.natAbs a.num))
 have h2:=qb4 (qm6 a.den)
 have h3:=qd1 a
 have h4:=qc9 a
 exact qe8 (by rw [Int.natAbs_natCast];omega) om (Nat.le_trans (qQ_ a) h)
theorem qh2 (a q:Rat) (w:World) (hq:exq a=q) (h:q*q=a) (hs:sz a≤1000) :
  Calls Tryz.prog 33 #[(Value.agg #[.int .u64 (lo a.num.natAbs),.string (bg a.num.natAbs),.bool (a.num<0),.int .u64 (lo (a.den - 1)),.string (bg (a.den - 1))])] w fun e w'=>e=.returned (.tuple #[(Value.agg #[.int .u64 (lo q.num.natAbs),.string (bg q.num.natAbs),.bool (q.num<0),.int .u64 (lo (q.den - 1)),.string (bg (q.den - 1))]),.bool true])∧Below w.heap.size w w' :=
 xb4 a q _ _ w (lh_ rfl) (lh_ rfl) (lh_ (qV0 a.den_pos)) (lh_ hq) (lh_ h) hs
theorem qi_ (a q:Rat) (w:World) (hq:exq a=q) (h:¬ q*q=a) (hs:sz a≤1000) :
  Calls Tryz.prog 33 #[(Value.agg #[.int .u64 (lo a.num.natAbs),.string (bg a.num.natAbs),.bool (a.num<0),.int .u64 (lo (a.den - 1)),.string (bg (a.den - 1))])] w fun e w'=>e=.returned (.tuple #[(Value.agg #[.int .u64 (lo (Int.natAbs (((0:Rat)).num))),.string (bg (Int.natAbs (((0:Rat)).num))),.bool (decide ((((0:Rat)).num)<0)),.int .u64 (lo (((0:Rat)).den - 1)),.string (bg (((0:Rat)).den - 1))]),.bool false])∧Below w.heap.size w w' :=
 xc_ a q _ _ w (lh_ rfl) (lh_ rfl) (lh_ (qV0 a.den_pos)) (lh_ hq) (lh_ h) hs
end Go.Proofs.YtaflakcemiilaaaGreatDoor

set_option linter.unusedVariables false
set_option linter.unusedSimpArgs false
namespace Go.Proofs.YtaflakcemiilaaaGreatDoor
open Go.RowKit
def fcl (q:Rat):List Value:=[.int .u64 (lo q.num.natAbs),.string (bg q.num.natAbs),.bool (q.num<0),.int .u64 (lo (q.den - 1)),.string (bg (q.den - 1))]
def Fs (w:World) (v:Value) (n:Nat) (f:Nat→Rat):Prop :=
 (∃ ao c,v=.slice ao n c∧n=0)∨∃ b o c,v=.slice (some ⟨b,o,none⟩) n c∧b<w.heap.size∧∀ i,i<n→∀ j,j<5→w.cell? ⟨b,o+i*5+j,none⟩=(fcl (f i))[j]?
theorem Fs.gr {w w':World} {v:Value} {n:Nat} {f:Nat→Rat} (h:Fs w v n f) (hg:Gr w w'):Fs w' v n f:=by
 rcases h with h|⟨b,o,c,rfl,hb,hc⟩
 ·exact .inl h
 ·exact .inr ⟨b,o,c,rfl,Nat.lt_of_lt_of_le hb hg.size,fun i hi j hj=>(Below.cell hg (p:=⟨b,o+i*5+j,none⟩) hb).trans (hc i hi j hj)⟩
theorem Fs.slice {w:World} {v:Value} {n:Nat} {f:Nat→Rat} (h:Fs w v n f):∃ ao c,v=.slice ao n c:=by
 rcases h with ⟨ao,c,rfl,_⟩|⟨b,o,c,rfl,_⟩
 ·exact ⟨_,_,rfl⟩
 ·exact ⟨_,_,rfl⟩
def qsum (f:Nat→Rat):Nat→Rat
 | 0=>0
 | k+1=>qsum f k+f k
theorem qS9 (f:Nat→Rat) (n M:Nat) (h:∀ i,i<n→sz (f i)≤M) (k:Nat) (hk:k≤n):sz (qsum f k)≤1+k*(M+1):=by
 induction k with
 | zero=>exact Nat.le_trans (qd5 (qe5 (by decide)) (qe5 (by decide)):sz (0:Rat)≤1) (Nat.le_add_right 1 _)
 | succ k ih =>
  have h1:=qe0 (qsum f k) (f k)
  have h2:=ih om
  have h3:=h k om
  have h4:(k+1)*(M+1)=k*(M+1)+(M+1):=by rw [Nat.succ_mul]
  show sz (qsum f k+f k)≤_
  omega
end Go.Proofs.YtaflakcemiilaaaGreatDoor

set_option maxRecDepth 100000
set_option maxHeartbeats 16000000
set_option linter.unusedVariables false
set_option linter.unusedSimpArgs false
namespace Go.Proofs.YtaflakcemiilaaaGreatDoor
open Go.RowKit
attribute [local go_sem ↓] Go.wp_at_zero Go.wp_at_succ
theorem xA0 (q a z:Rat) (g B:Nat) (w:World) (bx9:Bx w g 166 #[.int .u64 (lo q.num.natAbs),.string (bg q.num.natAbs),.bool (q.num<0),.int .u64 (lo (q.den - 1)),.string (bg (q.den - 1))]) (hB:B≤w.heap.size) (hBg:B≤g) (hz:q+a=z) (hs_q:sz q≤10000000000) (hs_a:sz a≤10000000000) :
  Calls Tryz.prog 127 #[.pointer (some ⟨g,0,none⟩),(Value.agg #[.int .u64 (lo a.num.natAbs),.string (bg a.num.natAbs),.bool (a.num<0),.int .u64 (lo (a.den - 1)),.string (bg (a.den - 1))])] w fun e w'=>e=.returned (.tuple #[])∧Below B w w'∧Bx w' g 166 #[.int .u64 (lo z.num.natAbs),.string (bg z.num.natAbs),.bool (z.num<0),.int .u64 (lo (z.den - 1)),.string (bg (z.den - 1))]:=by
 replace hz:=lh_ hz
 go_enter Tryz.func127,Tryz.ntmps127
 have e9:=bx9.lt
 refine wp_seq_k fun K J=>?_
 replace J:=lh_ J
 refine wp_region_lit ?_
 go_wp2
 refine kO J ?_;clear J K
 refine xk_ (fun w2=>Bx w2 g 166 #[.int .u64 (lo q.num.natAbs),.string (bg q.num.natAbs),.bool (q.num<0),.int .u64 (lo (q.den - 1)),.string (bg (q.den - 1))]∧Bx w2 (w.heap.size) 36 #[.int .u64 (lo a.num.natAbs),.string (bg a.num.natAbs),.bool (a.num<0),.int .u64 (lo (a.den - 1)),.string (bg (a.den - 1))]∧Below B w w2) ⟨(bx9).alloc _,Bx.at rfl,(Below.refl _ _).alloc (by first|omega|(simp;omega)) _⟩ ?_
 clear bx9
 rintro Wx ⟨bx9,bx10,HB⟩
 replace HB:=lh_ HB
 have HZ1:Hid (q+(a)=z):=lh_ (hz.out)
 have lx9:=bx9.cells
 have lx10:=bx10.cells
 have BX9:=lh_ bx9
 have BX10:=lh_ bx10
 clear bx9 bx10
 refine qA9 fun K J=>?_
 replace J:=lh_ J
 refine qa2 9 [] [] (fun _=>0) (fun _=>.cells #[] 0) [(true,0),(true,1),(true,2),(true,3),(true,4),(true,5),(true,6),(true,7),(true,8)] (by kernel_rfl) (by kernel_rfl) (fun i hi=>by cases hi) (fun i hi=>by cases hi) (fun _ _ _ _ _ h=>h) (fun T O=>?_)
 iterate 6
  refine qi3 (v:=?_) rfl (by rfl) (fun w' hw=>?_) ?_
  rotate_left
  ·go_simp
   with_reducible rfl
  simp only [Act.put,List.setIfInBounds_toArray,List.set_cons_zero,List.set_cons_succ]
 refine qg9 rfl (by rfl) Tryz.call30 (fun w' hw=>qc5 q a z _ HZ1.out (by first|omega|exact Nat.le_trans (qe5 (by decide)) (by decide)) (by first|omega|exact Nat.le_trans (qe5 (by decide)) (by decide))) (by rfl) ?_
 simp only [Act.put,List.setIfInBounds_toArray,List.set_cons_zero,List.set_cons_succ]
 iterate 2
  refine qi3 (v:=?_) rfl (by rfl) (fun w' hw=>?_) ?_
  rotate_left
  ·go_simp
   with_reducible rfl
  simp only [Act.put,List.setIfInBounds_toArray,List.set_cons_zero,List.set_cons_succ]
 refine qa1 (O.out _ _ ?_);clear O T
 intro G vw1 hg hf
 simp only [puts,Act.put,List.setIfInBounds_toArray,List.set_cons_zero,List.set_cons_succ,List.drop_succ_cons,List.drop_zero,↓reduceIte,Nat.reduceEqDiff]
 clear lx9 lx10
 have I:=lh_ hg
 clear hg
 have bx9:=BX9.out.gr I.out;clear BX9
 have bx10:=BX10.out.gr I.out;clear BX10
 have lx9:=bx9.cells;have fx9:=bx9.free
 have r0:=Gr.refl vw1
 have BX9:=lh_ bx9;clear bx9
 have BX10:=lh_ bx10;clear bx10
 go_wp2
 refine J.out _ _ ?_;clear J K
 try simp only [Exit.then,Exit.inBlock]
 clear lx9 fx9
 clear r0
 refine xm7 (fun w2=>Bx w2 g 166 #[.int .u64 (lo z.num.natAbs),.string (bg z.num.natAbs),.bool (z.num<0),.int .u64 (lo (z.den - 1)),.string (bg (z.den - 1))]∧Below B w w2) ⟨((((((BX9.out).set 0 _).set 1 _).set 2 _).set 3 _).set 4 _).eq (by simp only [List.setIfInBounds_toArray,List.set_cons_zero,List.set_cons_succ]),(((((HB.out.trans (I.out.mono (Nat.le_trans hB HB.out.size))).setCell (by show B≤g;omega) _).setCell (by show B≤g;omega) _).setCell (by show B≤g;omega) _).setCell (by show B≤g;omega) _).setCell (by show B≤g;omega) _⟩ ?_
 clear HB I BX9 BX10
 rintro Wx1 ⟨bx9,HB⟩
 replace HB:=lh_ HB
 have r0:=Gr.refl Wx1
 exact bodyPost_end (v:=.tuple #[]) (by simp [results,Tryz.results127,go_sem]) rfl ⟨rfl,HB.out,bx9⟩
theorem xu0 (n:Nat) (f:Nat→Rat) (v:Value) (g:Nat) (w0 w:World) (hx:Fs w0 v n f) (hgr:Gr w0 w) (bx:Bx w g 166 #[.int .u64 0,.string ⟨#[]⟩,.bool false,.int .u64 0,.string ⟨#[]⟩]) (hBg:w0.heap.size≤g)
  (hn:n≤1000000) (hs:∀ i,i<n→sz (f i)≤1000) :
  Calls Tryz.prog 126 #[.func (.func 127) #[.pointer (some ⟨g,0,none⟩)] #[],v] w fun e w'=>e=.returned (.tuple #[])∧Below w0.heap.size w w'∧Bx w' g 166 #[.int .u64 (lo (Int.natAbs ((qsum f n).num))),.string (bg (Int.natAbs ((qsum f n).num))),.bool (decide (((qsum f n).num)<0)),.int .u64 (lo ((qsum f n).den - 1)),.string (bg ((qsum f n).den - 1))]:=by
 obtain ⟨ao,c,rfl⟩:=hx.slice
 have HS:=lh_ hs
 have HX:=lh_ hx
 have HGR:=lh_ hgr
 have hB:w0.heap.size≤w.heap.size:=hgr.size
 clear hs hx hgr
 go_enter Tryz.func126,Tryz.ntmps126
 go_wp2
 go_loopw [8] (fun i wr=>∃ k:Nat,k≤n∧i=.int .i64 k∧Below w0.heap.size w wr∧Bx wr g 166 #[.int .u64 (lo (Int.natAbs ((qsum f k).num))),.string (bg (Int.natAbs ((qsum f k).num))),.bool (decide (((qsum f k).num)<0)),.int .u64 (lo ((qsum f k).den - 1)),.string (bg ((qsum f k).den - 1))]) (fun i _=>n - (intOf i).toNat)
 case atStart=>exact ⟨0,Nat.zero_le _,rfl,Below.refl _ _,bx⟩
 case round =>
  obtain ⟨k,hk,rfl,hbel,hbx⟩:=hrel
  by_cases hlt:k<n
  ·rcases HX.out with ⟨_,_,_,hz⟩|⟨b,o,c',hv,hb,hc⟩
   ·omega
   injection hv with hv1 _ hv3
   subst hv1 hv3
   obtain ⟨q,HQ⟩:∃ q,Hid (f k=q):=⟨_,lh_ rfl⟩
   have HSQ:sz q≤1000:=by rw [← HQ.out];exact HS.out _ hlt
   have hgw:Below w0.heap.size w0 wr:=Below.trans HGR.out hbel
   have hcell:∀ j,j<5→wr.cell? ⟨b,o+k*5+j,none⟩=(fcl q)[j]?:=fun j hj=>(Below.cell hgw (p:=⟨b,o+k*5+j,none⟩) hb).trans (by rw [← HQ.out];exact hc k hlt j hj)
   have c0:wr.cell? ⟨b,o+k*5,none⟩=_:=hcell 0 (by decide)
   have c1:=hcell 1 (by decide)
   have c2:=hcell 2 (by decide)
   have c3:=hcell 3 (by decide)
   have c4:=hcell 4 (by decide)
   clear hcell hgw hc hb HX
   simp [fcl] at c0 c1 c2 c3 c4
   have HB:=lh_ hbel
   have HXb:=lh_ hbx
   have hsz:=Nat.le_trans hB hbel.size
   have hsp:sz (qsum f k)≤10000000000:=by
    have h1:=qS9 f n 1000 HS.out k om
    have h2:k*1001≤1000000*1001:=Nat.mul_le_mul_right _ om
    omega
   have HP:Hid (qsum f k+q=qsum f (k+1)):=by show _=_;rw [← HQ.out];rfl
   clear hbel hbx
   go_wp2_with fail
   refine (xA0 (qsum f k) q (qsum f (k+1)) g w0.heap.size _ ((HXb.out.alloc _)) (by simp;omega) hBg HP.out hsp om).mono ?_
   rintro e w2 ⟨rfl,hb2,hx2⟩
   have HB2:=lh_ ((HB.out.alloc hsz _).trans hb2)
   have HX2:=lh_ hx2
   clear hb2 hx2 c0 c1 c2 c3 c4
   go_wp2_with fail
   go_roundw
   case rel=>exact ⟨k+1,by omega,by go_num,HB2.out,HX2.out⟩
   case measure=>simp [intOf];omega
  ·obtain rfl:k=n:=by omega
   have HB:=lh_ hbel
   have HXb:=lh_ hbx
   clear hbel hbx
   go_wp2
   exact bodyPost_end (v:=.tuple #[]) (by simp [results,Tryz.results126,go_sem]) rfl ⟨rfl,HB.out,HXb.out⟩
theorem qi2 (n:Nat) (f:Nat→Rat) (v:Value) (z:Rat) (w:World) (h:Fs w v n f) (hn:n≤1000000) (hs:∀ i,i<n→sz (f i)≤1000) (hz:qsum f n=z) :
  Calls Tryz.prog 40 #[v] w fun e w'=>e=.returned (Value.agg #[.int .u64 (lo z.num.natAbs),.string (bg z.num.natAbs),.bool (z.num<0),.int .u64 (lo (z.den - 1)),.string (bg (z.den - 1))])∧Below w.heap.size w w':=by
 obtain ⟨ao,c,rfl⟩:=h.slice
 obtain ⟨W0,HW⟩:∃ W0,Hid (((w.alloc (.cells #[.int .u64 0,.string ⟨#[]⟩,.bool false,.int .u64 0,.string ⟨#[]⟩] 36)).alloc (.cells #[.int .u64 0,.string ⟨#[]⟩,.bool false,.int .u64 0,.string ⟨#[]⟩] 166))=W0):=⟨_,lh_ rfl⟩
 have H1:=lh_ (show Bx W0 w.heap.size 36 #[.int .u64 0,.string ⟨#[]⟩,.bool false,.int .u64 0,.string ⟨#[]⟩] by rw [← HW.out];exact (Bx.at rfl).alloc _)
 have H2:=lh_ (show Bx W0 (w.heap.size+1) 166 #[.int .u64 0,.string ⟨#[]⟩,.bool false,.int .u64 0,.string ⟨#[]⟩] by rw [← HW.out];exact Bx.at (by simp))
 have H4:=lh_ (show Below w.heap.size w W0 by rw [← HW.out];exact ((Below.refl _ _).alloc (Nat.le_refl _) _).alloc (by simp) _)
 have H5:=lh_ (show Gr (w.alloc (.cells #[.int .u64 0,.string ⟨#[]⟩,.bool false,.int .u64 0,.string ⟨#[]⟩] 36)) W0 by rw [← HW.out];exact Gr.alloc _ _)
 have HE:=lh_ (xu0 n f (.slice ao n c) (w.heap.size+1) _ W0 (h.gr (Gr.alloc w _)) H5.out H2.out (by simp) hn hs)
 have HZ:=lh_ hz
 clear h hs hz H5
 go_enter Tryz.func40,Tryz.ntmps40
 go_wp2_with fail
 rw [HW.out]
 refine HE.out.mono ?_
 rintro e w2 ⟨rfl,hb2,hx2⟩
 have hb2:Below (w.heap.size+1) W0 w2:=by simpa using hb2
 rw [HZ.out] at hx2
 have l1:=hx2.cells
 have h1:=H1.out.below hb2 (Nat.lt_succ_self _)
 have l2:=h1.cells
 have f2:=h1.free
 have r0:=Gr.refl w2
 have HB:=lh_ (H4.out.trans (hb2.mono (Nat.le_succ _)))
 clear hb2 hx2 h1 H1 H2 H4 HE HW
 go_wp2_with fail
 exact bodyPost_ret (v:=.agg #[.int .u64 (lo z.num.natAbs),.string (bg z.num.natAbs),.bool (z.num<0),.int .u64 (lo (z.den - 1)),.string (bg (z.den - 1))]) (by simp [results,Tryz.results40,go_sem,l2 _ r0]) rfl ⟨rfl,((((HB.out.setCell (Nat.le_refl _) _).setCell (Nat.le_refl _) _).setCell (Nat.le_refl _) _).setCell (Nat.le_refl _) _).setCell (Nat.le_refl _) _⟩
end Go.Proofs.YtaflakcemiilaaaGreatDoor

set_option maxRecDepth 100000
set_option maxHeartbeats 16000000
set_option linter.unusedVariables false
set_option linter.unusedSimpArgs false
namespace Go.Proofs.YtaflakcemiilaaaGreatDoor
open Go.RowKit
attribute [local go_sem ↓] Go.wp_at_zero Go.wp_at_succ
attribute [local go_sem ↓] qd6 qa7 qf4
theorem qt1 (a b s:Rat) (v:Value) (n:Nat) (f:Nat→Rat) (w:World) (HFS:Hid (Fs w v n f)) (hn:n≤1000000) (HSZ:Hid (∀ i,i<n→sz (f i)≤1000)) (HSUM:Hid (qsum f n=s)) (hss:sz s≤1000000) (hsa:sz a≤1000000) (hsb:sz b≤1000000) (HA:Hid (a<0)) :
  Calls Tryz.prog 34 #[(Value.agg #[.int .u64 (lo a.num.natAbs),.string (bg a.num.natAbs),.bool (a.num<0),.int .u64 (lo (a.den - 1)),.string (bg (a.den - 1))]),(Value.agg #[.int .u64 (lo b.num.natAbs),.string (bg b.num.natAbs),.bool (b.num<0),.int .u64 (lo (b.den - 1)),.string (bg (b.den - 1))]),v] w fun e w'=>e=.returned ((.tuple #[.int .i64 0,.int .i64 1]))∧Below w.heap.size w w':=by
 go_enter Tryz.func34,Tryz.ntmps34
 have I:=lh_ (hp0 w)
 refine kS fun K O=>?_
 refine wp_region_lit ?_
 go_wp2
 refine kF_ O (((I.out).aL (w.heap.size)).aL (w.heap.size+1)) fun Wx0 J=>?_;clear O K
 clear I;have I:=J;clear J
 generalize w.heap.size+1=gx1 at *
 have HB:=HPb I
 refine ks2_ fun K O T Y=>?_
 refine tk ?_
 refine ck Tryz.call40 (fun w' hw=>qi2 n f _ s _ (HFS.out.gr (Gr.trans HB.out hw)) om HSZ.out HSUM.out) ?_
 refine nlS Y I fun vw1 J=>?_
 clear Y T I HB
 go_wp2
 refine kF_ O ((J.out).aL (vw1.heap.size)) fun Wx1 I=>?_;clear O K
 clear J
 generalize vw1.heap.size=gx3 at *
 refine wp_seq ?_
 have lx0:=c0_ I
 have lx1:=c1_ I
 have lx3:=c2_ I
 refine qY6 fun K O T Y=>?_
 refine tk ?_
 refine ck Tryz.call35 (fun w' hw=>qa5 a (-1) _ (by have e9:(a)<(0:Rat):=(by first|exact ok|exact HA.out|exact HB_.out|exact HS.out|exact HL0.out);exact qf5 e9)) ?_
 refine tk2_ ?_
 iterate 3 refine sk ?_
 refine tk2_ ?_
 iterate 3 refine sk ?_
 refine tk ?_
 refine nlS Y I fun vw2 J=>?_
 clear Y T I lx0 lx1 lx3
 go_wp2
 refine kO O ?_;clear O K
 have I:=J;clear J
 refine wp_cond_true (by rfl) ?_
 refine kS fun K O=>?_
 refine wp_region_lit ?_
 go_wp2
 refine kF_ O (I.out) fun Wx3 J=>?_;clear O K
 clear I;have I:=J;clear J
 refine wp_ret ?_
 try simp only [Exit.then,Exit.inBlock]
 exact bodyPost_ret (v:=.tuple #[.int .i64 0,.int .i64 1]) (by simp [results,Tryz.results34,go_sem]) rfl ⟨rfl,I.out.1⟩
theorem qo9 (a b s:Rat) (v:Value) (n:Nat) (f:Nat→Rat) (w:World) (HFS:Hid (Fs w v n f)) (hn:n≤1000000) (HSZ:Hid (∀ i,i<n→sz (f i)≤1000)) (HSUM:Hid (qsum f n=s)) (hss:sz s≤1000000) (hsa:sz a≤1000000) (hsb:sz b≤1000000) (HA:Hid (0≤a)) (HB_:Hid (0≤b)) (HS:Hid (s<0)) :
  Calls Tryz.prog 34 #[(Value.agg #[.int .u64 (lo a.num.natAbs),.string (bg a.num.natAbs),.bool (a.num<0),.int .u64 (lo (a.den - 1)),.string (bg (a.den - 1))]),(Value.agg #[.int .u64 (lo b.num.natAbs),.string (bg b.num.natAbs),.bool (b.num<0),.int .u64 (lo (b.den - 1)),.string (bg (b.den - 1))]),v] w fun e w'=>e=.returned ((.tuple #[.int .i64 0,.int .i64 1]))∧Below w.heap.size w w':=by
 go_enter Tryz.func34,Tryz.ntmps34
 have I:=lh_ (hp0 w)
 refine kS fun K O=>?_
 refine wp_region_lit ?_
 go_wp2
 refine kF_ O (((I.out).aL (w.heap.size)).aL (w.heap.size+1)) fun Wx0 J=>?_;clear O K
 clear I;have I:=J;clear J
 generalize w.heap.size+1=gx1 at *
 have HB:=HPb I
 refine ks2_ fun K O T Y=>?_
 refine tk ?_
 refine ck Tryz.call40 (fun w' hw=>qi2 n f _ s _ (HFS.out.gr (Gr.trans HB.out hw)) om HSZ.out HSUM.out) ?_
 refine nlS Y I fun vw1 J=>?_
 clear Y T I HB
 go_wp2
 refine kF_ O ((J.out).aL (vw1.heap.size)) fun Wx1 I=>?_;clear O K
 clear J
 generalize vw1.heap.size=gx3 at *
 refine wp_seq ?_
 obtain ⟨t1,HT1⟩:∃ z,Hid (sgQ a=z):=⟨_,lh_ rfl⟩
 have ht1:0≤t1:=by rw [← HT1.out];exact sgQ_nn0 HA.out
 have hd1:¬ (t1<0):=by first|exact ok|exact HA.out|exact HB_.out|exact HS.out|exact HL0.out
 obtain ⟨t2,HT2⟩:∃ z,Hid (sgQ b=z):=⟨_,lh_ rfl⟩
 have ht2:0≤t2:=by rw [← HT2.out];exact sgQ_nn0 HB_.out
 have hd2:¬ (t2<0):=by first|exact ok|exact HA.out|exact HB_.out|exact HS.out|exact HL0.out
 have lx0:=c0_ I
 have lx1:=c1_ I
 have lx3:=c2_ I
 refine qY6 fun K O T Y=>?_
 refine tk ?_
 refine ck Tryz.call35 (fun w' hw=>qa5 a t1 _ HT1.out) ?_
 refine tk3_ ?_
 refine ck Tryz.call35 (fun w' hw=>qa5 b t2 _ HT2.out) ?_
 iterate 4 refine tk ?_
 refine ck Tryz.call35 (fun w' hw=>qa5 s (-1) _ (by have e9:(s)<(0:Rat):=(by first|exact ok|exact HA.out|exact HB_.out|exact HS.out|exact HL0.out);exact qf5 e9)) ?_
 refine tk2_ ?_
 refine nlS Y I fun vw2 J=>?_
 clear Y T I lx0 lx1 lx3
 go_wp2
 refine kO O ?_;clear O K
 have I:=J;clear J
 clear ht1 hd1 ht2 hd2
 refine wp_cond_true (by rfl) ?_
 refine kS fun K O=>?_
 refine wp_region_lit ?_
 go_wp2
 refine kF_ O (I.out) fun Wx3 J=>?_;clear O K
 clear I;have I:=J;clear J
 refine wp_ret ?_
 try simp only [Exit.then,Exit.inBlock]
 exact bodyPost_ret (v:=.tuple #[.int .i64 0,.int .i64 1]) (by simp [results,Tryz.results34,go_sem]) rfl ⟨rfl,I.out.1⟩
theorem qJ1 (a b s:Rat) (v:Value) (n:Nat) (f:Nat→Rat) (l:Rat) (w:World) (HFS:Hid (Fs w v n f)) (hn:n≤1000000) (HSZ:Hid (∀ i,i<n→sz (f i)≤1000)) (HSUM:Hid (qsum f n=s)) (hss:sz s≤1000000) (hsa:sz a≤1000000) (hsb:sz b≤1000000) (HA:Hid (0≤a)) (HB_:Hid (0≤b)) (HS:Hid (0≤s)) (HL:Hid (s - (a+b)=l)) (HL0:Hid (l<0)) :
  Calls Tryz.prog 34 #[(Value.agg #[.int .u64 (lo a.num.natAbs),.string (bg a.num.natAbs),.bool (a.num<0),.int .u64 (lo (a.den - 1)),.string (bg (a.den - 1))]),(Value.agg #[.int .u64 (lo b.num.natAbs),.string (bg b.num.natAbs),.bool (b.num<0),.int .u64 (lo (b.den - 1)),.string (bg (b.den - 1))]),v] w fun e w'=>e=.returned ((.tuple #[.int .i64 1,.int .i64 0]))∧Below w.heap.size w w':=by
 go_enter Tryz.func34,Tryz.ntmps34
 have I:=lh_ (hp0 w)
 refine kS fun K O=>?_
 refine wp_region_lit ?_
 go_wp2
 refine kF_ O (((I.out).aL (w.heap.size)).aL (w.heap.size+1)) fun Wx0 J=>?_;clear O K
 clear I;have I:=J;clear J
 generalize w.heap.size+1=gx1 at *
 have HB:=HPb I
 refine ks2_ fun K O T Y=>?_
 refine tk ?_
 refine ck Tryz.call40 (fun w' hw=>qi2 n f _ s _ (HFS.out.gr (Gr.trans HB.out hw)) om HSZ.out HSUM.out) ?_
 refine nlS Y I fun vw1 J=>?_
 clear Y T I HB
 go_wp2
 refine kF_ O ((J.out).aL (vw1.heap.size)) fun Wx1 I=>?_;clear O K
 clear J
 generalize vw1.heap.size=gx3 at *
 refine wp_seq ?_
 obtain ⟨t1,HT1⟩:∃ z,Hid (sgQ a=z):=⟨_,lh_ rfl⟩
 have ht1:0≤t1:=by rw [← HT1.out];exact sgQ_nn0 HA.out
 have hd1:¬ (t1<0):=by first|exact ok|exact HA.out|exact HB_.out|exact HS.out|exact HL0.out
 obtain ⟨t2,HT2⟩:∃ z,Hid (sgQ b=z):=⟨_,lh_ rfl⟩
 have ht2:0≤t2:=by rw [← HT2.out];exact sgQ_nn0 HB_.out
 have hd2:¬ (t2<0):=by first|exact ok|exact HA.out|exact HB_.out|exact HS.out|exact HL0.out
 obtain ⟨t3,HT3⟩:∃ z,Hid (sgQ s=z):=⟨_,lh_ rfl⟩
 have ht3:0≤t3:=by rw [← HT3.out];exact sgQ_nn0 HS.out
 have hd3:¬ (t3<0):=by first|exact ok|exact HA.out|exact HB_.out|exact HS.out|exact HL0.out
 have lx0:=c0_ I
 have lx1:=c1_ I
 have lx3:=c2_ I
 refine qY6 fun K O T Y=>?_
 refine tk ?_
 refine ck Tryz.call35 (fun w' hw=>qa5 a t1 _ HT1.out) ?_
 refine tk3_ ?_
 refine ck Tryz.call35 (fun w' hw=>qa5 b t2 _ HT2.out) ?_
 iterate 4 refine tk ?_
 refine ck Tryz.call35 (fun w' hw=>qa5 s t3 _ HT3.out) ?_
 refine tk2_ ?_
 refine nlS Y I fun vw2 J=>?_
 clear Y T I lx0 lx1 lx3
 go_wp2
 refine kO O ?_;clear O K
 have I:=J;clear J
 clear ht1 hd1 ht2 hd2 ht3 hd3
 refine wp_cond_false (by rfl) ?_
 refine wp_skip ?_
 show Code.wp _ _ _ _ _
 obtain ⟨u4,HZ4⟩:∃ z,Hid (a+(b)=z):=⟨_,lh_ rfl⟩
 have su4:sz u4≤2000001:=by rw [← HZ4.out];have:=qe0 a b;omega
 have HZ5:Hid (s - u4=l):=lh_ (by rw [← HL.out];simp only [← HZ4.out])
 have su5:sz l≤3000002:=by have e:=HZ5.out;first|omega|(rw [← e];have:=qA8 s u4;omega)
 have lx0:=c0_ I
 have lx1:=c1_ I
 have lx3:=c2_ I
 refine kS fun K O=>?_
 refine qa2 6 [5] [] (fun _=>9) (fun _=>.cells #[.int .u64 0,.string ⟨#[]⟩,.bool false,.int .u64 0,.string ⟨#[]⟩] 36) [(true,0),(true,1),(true,2),(true,3),(true,4)] (by kernel_rfl) (by kernel_rfl) (by intro i hi;simp only [List.mem_cons,List.not_mem_nil,or_false] at hi;rcases hi with rfl <;> exact ⟨_,rfl,rfl,rfl,by simp,fun ρ w=>by kernel_rfl⟩) (fun i hi=>by cases hi) (fun _ _ _ _ _ h=>h) (fun T Y=>?_)
 refine tk3_ ?_
 refine ck Tryz.call30 (fun w' hw=>qc5 a b u4 _ HZ4.out om om) ?_
 refine ck Tryz.call42 (fun w' hw=>qp7 s u4 l _ HZ5.out om om) ?_
 refine qa1 (Y.out _ _ ?_)
 intro G vw3 hg hf
 simp only [puts,Act.put,lA,lB,lC,lD,lE,↓reduceIte,Nat.reduceEqDiff]
 have J:=lh_ (I.out.fr hg hf (zs:=[(#[.int .u64 0,.string ⟨#[]⟩,.bool false,.int .u64 0,.string ⟨#[]⟩],36)]) rfl (by decide) (by decide))
 simp only [zq1_,zq2_,zq3_,zq4_,lF,lG] at J
 clear Y T I hg hf lx0 lx1 lx3
 generalize G 5=gx4 at *
 have lx4:=c3_ J;have fx4:=f3_ J
 have r0:=Gr.refl vw3
 go_wp2
 refine kO O ?_;clear O K
 clear r0 lx4 fx4
 refine fH (((((J.out).put2 3 0 rfl).put2 3 2 rfl).put 3 4 _ rfl).er 2) fun Wx4 I=>?_
 clear J
 refine wp_seq ?_
 have lx4:=c2_ I
 refine ks3_ fun K O T Y=>?_
 refine tk ?_
 refine ck Tryz.call35 (fun w' hw=>qa5 l (-1) _ (by have e9:(l)<(0:Rat):=(by first|exact ok|exact HA.out|exact HB_.out|exact HS.out|exact HL0.out|(simp only [← HZ4.out] <;> first|exact ok|exact HA.out|exact HB_.out|exact HS.out|exact HL0.out));exact qf5 e9)) ?_
 refine tk ?_
 refine nlS Y I fun vw4 J=>?_
 clear Y T I lx4
 go_wp2
 refine kO O ?_;clear O K
 have I:=J;clear J
 refine wp_cond_true (by rfl) ?_
 refine kS fun K O=>?_
 refine wp_region_lit ?_
 go_wp2
 refine kF_ O (I.out) fun Wx6 J=>?_;clear O K
 clear I;have I:=J;clear J
 refine wp_ret ?_
 try simp only [Exit.then,Exit.inBlock]
 exact bodyPost_ret (v:=.tuple #[.int .i64 1,.int .i64 0]) (by simp [results,Tryz.results34,go_sem]) rfl ⟨rfl,I.out.1⟩
theorem qI_ (a b s:Rat) (v:Value) (n:Nat) (f:Nat→Rat) (l:Rat) (c:Int) (w:World) (HFS:Hid (Fs w v n f)) (hn:n≤1000000) (HSZ:Hid (∀ i,i<n→sz (f i)≤1000)) (HSUM:Hid (qsum f n=s)) (hss:sz s≤1000000) (hsa:sz a≤1000000) (hsb:sz b≤1000000) (HA:Hid (0≤a)) (HB_:Hid (0≤b)) (HS:Hid (0≤s)) (HL:Hid (s - (a+b)=l)) (HL0:Hid (0≤l)) (HC:Hid (sgQ (4*(a*b) - l*l)=c)) :
  Calls Tryz.prog 34 #[(Value.agg #[.int .u64 (lo a.num.natAbs),.string (bg a.num.natAbs),.bool (a.num<0),.int .u64 (lo (a.den - 1)),.string (bg (a.den - 1))]),(Value.agg #[.int .u64 (lo b.num.natAbs),.string (bg b.num.natAbs),.bool (b.num<0),.int .u64 (lo (b.den - 1)),.string (bg (b.den - 1))]),v] w fun e w'=>e=.returned ((.tuple #[.int .i64 c,.int .i64 0]))∧Below w.heap.size w w':=by
 go_enter Tryz.func34,Tryz.ntmps34
 have I:=lh_ (hp0 w)
 refine kS fun K O=>?_
 refine wp_region_lit ?_
 go_wp2
 refine kF_ O (((I.out).aL (w.heap.size)).aL (w.heap.size+1)) fun Wx0 J=>?_;clear O K
 clear I;have I:=J;clear J
 generalize w.heap.size+1=gx1 at *
 have HB:=HPb I
 refine ks2_ fun K O T Y=>?_
 refine tk ?_
 refine ck Tryz.call40 (fun w' hw=>qi2 n f _ s _ (HFS.out.gr (Gr.trans HB.out hw)) om HSZ.out HSUM.out) ?_
 refine nlS Y I fun vw1 J=>?_
 clear Y T I HB
 go_wp2
 refine kF_ O ((J.out).aL (vw1.heap.size)) fun Wx1 I=>?_;clear O K
 clear J
 generalize vw1.heap.size=gx3 at *
 refine wp_seq ?_
 obtain ⟨t1,HT1⟩:∃ z,Hid (sgQ a=z):=⟨_,lh_ rfl⟩
 have ht1:0≤t1:=by rw [← HT1.out];exact sgQ_nn0 HA.out
 have hd1:¬ (t1<0):=by first|exact ok|exact HA.out|exact HB_.out|exact HS.out|exact HL0.out
 obtain ⟨t2,HT2⟩:∃ z,Hid (sgQ b=z):=⟨_,lh_ rfl⟩
 have ht2:0≤t2:=by rw [← HT2.out];exact sgQ_nn0 HB_.out
 have hd2:¬ (t2<0):=by first|exact ok|exact HA.out|exact HB_.out|exact HS.out|exact HL0.out
 obtain ⟨t3,HT3⟩:∃ z,Hid (sgQ s=z):=⟨_,lh_ rfl⟩
 have ht3:0≤t3:=by rw [← HT3.out];exact sgQ_nn0 HS.out
 have hd3:¬ (t3<0):=by first|exact ok|exact HA.out|exact HB_.out|exact HS.out|exact HL0.out
 have lx0:=c0_ I
 have lx1:=c1_ I
 have lx3:=c2_ I
 refine qY6 fun K O T Y=>?_
 refine tk ?_
 refine ck Tryz.call35 (fun w' hw=>qa5 a t1 _ HT1.out) ?_
 refine tk3_ ?_
 refine ck Tryz.call35 (fun w' hw=>qa5 b t2 _ HT2.out) ?_
 iterate 4 refine tk ?_
 refine ck Tryz.call35 (fun w' hw=>qa5 s t3 _ HT3.out) ?_
 refine tk2_ ?_
 refine nlS Y I fun vw2 J=>?_
 clear Y T I lx0 lx1 lx3
 go_wp2
 refine kO O ?_;clear O K
 have I:=J;clear J
 clear ht1 hd1 ht2 hd2 ht3 hd3
 refine wp_cond_false (by rfl) ?_
 refine wp_skip ?_
 show Code.wp _ _ _ _ _
 obtain ⟨u4,HZ4⟩:∃ z,Hid (a+(b)=z):=⟨_,lh_ rfl⟩
 have su4:sz u4≤2000001:=by rw [← HZ4.out];have:=qe0 a b;omega
 have HZ5:Hid (s - u4=l):=lh_ (by rw [← HL.out];simp only [← HZ4.out])
 have su5:sz l≤3000002:=by have e:=HZ5.out;first|omega|(rw [← e];have:=qA8 s u4;omega)
 have lx0:=c0_ I
 have lx1:=c1_ I
 have lx3:=c2_ I
 refine kS fun K O=>?_
 refine qa2 6 [5] [] (fun _=>9) (fun _=>.cells #[.int .u64 0,.string ⟨#[]⟩,.bool false,.int .u64 0,.string ⟨#[]⟩] 36) [(true,0),(true,1),(true,2),(true,3),(true,4)] (by kernel_rfl) (by kernel_rfl) (by intro i hi;simp only [List.mem_cons,List.not_mem_nil,or_false] at hi;rcases hi with rfl <;> exact ⟨_,rfl,rfl,rfl,by simp,fun ρ w=>by kernel_rfl⟩) (fun i hi=>by cases hi) (fun _ _ _ _ _ h=>h) (fun T Y=>?_)
 refine tk3_ ?_
 refine ck Tryz.call30 (fun w' hw=>qc5 a b u4 _ HZ4.out om om) ?_
 refine ck Tryz.call42 (fun w' hw=>qp7 s u4 l _ HZ5.out om om) ?_
 refine qa1 (Y.out _ _ ?_)
 intro G vw3 hg hf
 simp only [puts,Act.put,lA,lB,lC,lD,lE,↓reduceIte,Nat.reduceEqDiff]
 have J:=lh_ (I.out.fr hg hf (zs:=[(#[.int .u64 0,.string ⟨#[]⟩,.bool false,.int .u64 0,.string ⟨#[]⟩],36)]) rfl (by decide) (by decide))
 simp only [zq1_,zq2_,zq3_,zq4_,lF,lG] at J
 clear Y T I hg hf lx0 lx1 lx3
 generalize G 5=gx4 at *
 have lx4:=c3_ J;have fx4:=f3_ J
 have r0:=Gr.refl vw3
 go_wp2
 refine kO O ?_;clear O K
 clear r0 lx4 fx4
 refine fH (((((J.out).put2 3 0 rfl).put2 3 2 rfl).put 3 4 _ rfl).er 2) fun Wx4 I=>?_
 clear J
 refine wp_seq ?_
 obtain ⟨t6,HT6⟩:∃ z,Hid (sgQ l=z):=⟨_,lh_ rfl⟩
 have ht6:0≤t6:=by rw [← HT6.out];exact sgQ_nn0 HL0.out
 have hd4:¬ (t6<0):=by first|exact ok|exact HA.out|exact HB_.out|exact HS.out|exact HL0.out|(simp only [← HZ4.out] <;> first|exact ok|exact HA.out|exact HB_.out|exact HS.out|exact HL0.out)
 have lx4:=c2_ I
 refine ks3_ fun K O T Y=>?_
 refine tk ?_
 refine ck Tryz.call35 (fun w' hw=>qa5 l t6 _ HT6.out) ?_
 refine tk ?_
 refine nlS Y I fun vw4 J=>?_
 clear Y T I lx4
 go_wp2
 refine kO O ?_;clear O K
 have I:=J;clear J
 clear ht6 hd4
 refine wp_cond_false (by rfl) ?_
 refine wp_skip ?_
 show Code.wp _ _ _ _ _
 have HZ7:Hid (((4:Int):Rat)=(4:Rat)):=lh_ (by decide +kernel)
 have su7:sz ((4:Rat))≤2:=qd5 (qa4.2 (by decide +kernel)) (qa4.2 (by decide +kernel))
 obtain ⟨u8,HZ8⟩:∃ z,Hid (a*(b)=z):=⟨_,lh_ rfl⟩
 have su8:sz u8≤2000000:=by rw [← HZ8.out];have:=qb0 a b;omega
 obtain ⟨u9,HZ9⟩:∃ z,Hid ((4:Rat)*(u8)=z):=⟨_,lh_ rfl⟩
 have su9:sz u9≤2000002:=by rw [← HZ9.out];have:=qb0 (4:Rat) u8;omega
 obtain ⟨u10,HZ10⟩:∃ z,Hid (l*(l)=z):=⟨_,lh_ rfl⟩
 have su10:sz u10≤6000004:=by rw [← HZ10.out];have:=qb0 l l;omega
 have lx0:=c0_ I
 have lx1:=c1_ I
 have lx4:=c2_ I
 refine kS fun K O=>?_
 refine xF_ fun T Y=>?_
 refine tk3_ ?_
 refine ck Tryz.call32 (fun w' hw=>qb5 (4) (4:Rat) _ HZ7.out om om) ?_
 refine ck Tryz.call39 (fun w' hw=>qc7 a b u8 _ HZ8.out om om) ?_
 refine ck Tryz.call39 (fun w' hw=>qc7 (4:Rat) u8 u9 _ HZ9.out om om) ?_
 refine ck Tryz.call37 (fun w' hw=>qa3 l u10 _ (lh_ HZ10.out) om) ?_
 refine ck Tryz.call38 (fun w' hw=>qa8 u9 u10 c _ (by simp only [← HZ10.out,← HZ9.out,← HZ8.out,← HZ4.out];exact HC.out) om om) ?_
 refine tk ?_
 refine nlD Y I fun vw5 J=>?_
 clear Y T I lx0 lx1 lx4
 go_wp2
 refine kF_ O ((((J.out).er 2).er 1).er 0) fun Wx7 I=>?_;clear O K
 clear J
 refine wp_ret ?_
 try simp only [Exit.then,Exit.inBlock]
 exact bodyPost_ret (v:=.tuple #[.int .i64 c,.int .i64 0]) (by simp [results,Tryz.results34,go_sem]) rfl ⟨rfl,I.out.1⟩
end Go.Proofs.YtaflakcemiilaaaGreatDoor

set_option linter.unusedVariables false
set_option linter.unusedSimpArgs false
namespace Go.Proofs.YtaflakcemiilaaaGreatDoor
open Go.RowKit
def RowV (b:Nat) (cur:Array Value) (k:Nat) (v:Value) (n:Nat) (xs:List Value):Prop :=
 ∃ cap,v=.slice (some ⟨b,0,none⟩) n cap∧n≤cap∧cap≤maxLen∧cur.size=cap*k∧cur.toList.take (n*k)=xs∧xs.length=n*k
section
variable {w0 W W':World} {L:List Fk} {b E k n:Nat} {cur:Array Value} {v:Value} {xs:List Value}
theorem RowV.own (h:RowV b cur k v n xs) (hB:Bx W b E cur) (hle:w0.heap.size≤b):W.ownsRow w0.heap.size E k v n xs:=by
 obtain ⟨cap,rfl,h1,h2,h3,h4,h5⟩:=h
 exact ⟨h5,.inr ⟨b,cap,cur,rfl,hle,hB,h1,h2,h3,h4⟩⟩
theorem RowV.sl (h:RowV b cur k v n xs):∃ cap,v=.slice (some ⟨b,0,none⟩) n cap:=by
 obtain ⟨cap,e,_⟩:=h;exact ⟨cap,e⟩
theorem RowV.cell (h:RowV b cur k v n xs) (hB:Bx W b E cur) (g:Gr W W') (i:Nat) (hi:i<n*k):W'.cell? ⟨b,i,none⟩=xs[i]?:=by
 obtain ⟨cap,rfl,h1,h2,h3,h4,h5⟩:=h
 rw [hB.cells W' g,← h4,List.getElem?_take_of_lt hi,Array.getElem?_toList]
theorem Rn.kept {u:Value} {m:Nat} {row:Option Nat} (h:Rn W u m) (g:W.grownBy W' row) (hne:∀ j,row=some j→u.ownBlock≠some j):Rn W' u m:=by
 refine World.ownsRow.kept h g ?_
 cases hr:row with
 | none=>cases hu:u.ownBlock with
  | none=>exact .inl rfl
  | some j=>exact .inr (by simp)
 | some j=>exact .inr (hne j hr)
end
end Go.Proofs.YtaflakcemiilaaaGreatDoor

set_option linter.unusedVariables false
set_option linter.unusedSimpArgs false
namespace Go.Proofs.YtaflakcemiilaaaGreatDoor
open Go.RowKit
section
variable {w0 W:World} {L:List Fk} {E k n:Nat} {v:Value} {xs:List Value}
def Apart (L:List Fk) (v:Value):Prop:=∀ (i:Nat) (x:Nat × TypeId × Array Value),L[i]?=some (Sum.inl x)→v.ownBlock≠some x.1
theorem HP.grown {W':World} {row:Option Nat} (h:HP w0 W L) (hrow:∀ j,row=some j→w0.heap.size≤j) (hM:∀ (i:Nat) (x:Nat × TypeId × Array Value),L[i]?=some (Sum.inl x)→row≠some x.1)
  (hR:∀ (i:Nat) (v:Value) (m:Nat),L[i]? ≠ some (Sum.inr (v,m))) (g:W.grownBy W' row):HP w0 W' L:=by
 obtain ⟨h1,h2,h3⟩:=h
 refine ⟨h1.grown g h1.size hrow,fun i e he=>?_,h3⟩
 have:=h2 i e he
 rcases e with ⟨c,S,ds⟩|⟨u,m⟩
 ·exact ⟨(g.block c this.1.lt (fun e=>hM i _ he e.symm)).trans this.1,this.2⟩
 ·exact absurd he (hR i u m)
theorem xB9 (own:W.ownsRow w0.heap.size E k v n xs):∀ j,v.ownBlock=some j→w0.heap.size≤j:=by
 obtain ⟨_,⟨rfl,_⟩|⟨g,cap,cur,rfl,h,_⟩⟩:=own
 ·intro j hj;cases hj
 ·intro j hj;injection hj with hj;subst hj;exact h
theorem apX {ops:Array Oper} {rest:List Oper} {o:Oper} {a:Act} {Q:Exit→Act→World→Prop} {ad:Addr} {m c bytes:Nat} {news:List Value} {i:TypeInfo} {z:Value} (I:Hid (HP w0 W L)) (own:Hid (W.ownsRow w0.heap.size E k v n xs)) (HA:Hid (Apart L v)) (s x:Operand) (t:TypeId)
  (hi:Tryz.prog.info? E=some i) (hz:i.zero=some z) (hsize:i.size=k) (hby:i.bytes=bytes) (hzs:z.cells.size=k) (hty:Tryz.prog.underlying t=some (.slice E))
  (h63:n+m≤maxLen) (hbytes:(n+m)*bytes≤140737488355328) (hR:∀ (i:Nat) (v:Value) (m:Nat),L[i]? ≠ some (Sum.inr (v,m)))
  (hv:a.eval s=v) (hx:a.eval x=.slice (some ad) m c) (hnews:Hid (∀ j u,news[j]?=some u→W.cell? (ad.add j)=some u)) (hl:news.length=m*k) (h1:∀ u ∈ news,u.oneCell'=true) (hk:0<k)
  (ho:o.op=.call { callee:=.builtin .append,args:=#[s,x],argTypes:=#[t,t] }) (hgd:o.guard=none)
  (h:∀ v' W',Hid (HP w0 W' L)→Hid (W'.ownsRow w0.heap.size E k v' (n+m) (xs ++ news))→Hid (Apart L v')→wpList Tryz.prog ops Q rest (a.put o.dst v') W'):wpList Tryz.prog ops Q (o :: rest) a W:=by
 refine wpList_append_own_at W hgd s x t ho w0.heap.size E i z k bytes hty hi hz hsize hby hzs hk v n xs hv own.out ad m c news hx hl hnews.out h1 h63 hbytes I.out.1.size ?_
 intro v' W' own' grown _ hat
 refine h v' W' (lh_ (I.out.grown (xB9 own.out) HA.out hR grown)) (lh_ own') (lh_ fun j y hy e=>?_)
 rcases hat with ha|ha
 ·exact HA.out j y hy (ha ▸ e)
 ·have:=I.out.lt j y hy
  rw [e] at ha
  injection ha with ha
  omega
theorem xi0 {B:Nat} {W':World} (h:W.ownsRow B E k v n xs) (hg:Gr W W'):W'.ownsRow B E k v n xs:=by
 obtain ⟨hl,h|⟨g,cap,cur,rfl,h0,hc,h1⟩⟩:=h
 ·exact ⟨hl,.inl h⟩
 ·exact ⟨hl,.inr ⟨g,cap,cur,rfl,h0,Bx.gr (show Bx W g E cur from hc) hg,h1⟩⟩
theorem xh0 (h:HP w0 W L) (own:W.ownsRow w0.heap.size E k v n xs) (ha:Apart L v) (hn:0<n) (hE:E≠3):∃ g cur,HP w0 W (L ++ [Sum.inl (g,E,cur)])∧RowV g cur k v n xs:=by
 obtain ⟨hl,⟨_,h0⟩|⟨g,cap,cur,rfl,hg,hc,h1,h2,h3,h4⟩⟩:=own
 ·omega
 ·exact ⟨g,cur,h.add hc hE hg (fun i x hx e=>ha i x hx (by show some g=some x.1;rw [e])),⟨cap,rfl,h1,h2,h3,h4,hl⟩⟩
end
def fcs (f:Nat→Rat):Nat→List Value
 | 0=>[]
 | k+1=>fcs f k ++ fcl (f k)
theorem xp_ (f:Nat→Rat) (n:Nat):(fcs f n).length=n*5:=by
 induction n with
 | zero=>rfl
 | succ n ih=>rw [fcs,List.length_append,ih];show _+5=_;omega
theorem xv1 (f:Nat→Rat) (n i j:Nat) (hi:i<n) (hj:j<5):(fcs f n)[i*5+j]?=(fcl (f i))[j]?:=by
 induction n with
 | zero=>omega
 | succ n ih =>
  have hl:=xp_ f n
  rcases Nat.lt_or_ge i n with h|h
  ·rw [fcs,List.getElem?_append_left om]
   exact ih h
  ·obtain rfl:i=n:=by omega
   rw [fcs,List.getElem?_append_right om,hl,Nat.add_sub_cancel_left]
theorem qW5 {W:World} {g E n:Nat} {cur:Array Value} {v:Value} {f:Nat→Rat} (h:RowV g cur 5 v n (fcs f n)) (hB:Bx W g E cur):Fs W v n f:=by
 obtain ⟨cap,rfl,h1,h2,h3,h4,h5⟩:=h
 refine .inr ⟨g,0,cap,rfl,hB.lt,fun i hi j hj=>?_⟩
 have hlt:i*5+j<n*5:=by omega
 rw [Nat.zero_add,hB.cells W (Gr.refl _),← xv1 f n i j hi hj,← h4,List.getElem?_take_of_lt hlt,Array.getElem?_toList]
end Go.Proofs.YtaflakcemiilaaaGreatDoor

set_option maxRecDepth 100000
set_option maxHeartbeats 16000000
set_option linter.unusedVariables false
set_option linter.unusedSimpArgs false
namespace Go.Proofs.YtaflakcemiilaaaGreatDoor
open Go.RowKit
attribute [local go_sem ↓] Go.wp_at_zero Go.wp_at_succ
attribute [local go_sem ↓] qd6 qa7 qf4
theorem fs0 (w:World) (f:Nat→Rat):Fs w (.slice none 0 0) 0 f:=.inl ⟨_,_,rfl,rfl⟩
def rf1_ (a:Rat):Nat→Rat:=fun _=>a
def rf2_ (a b:Rat):Nat→Rat:=fun i=>if i=0 then a else b
theorem fs1 {w w':World} {g:Nat} {a:Rat} (h:Bx w g 36 #[.int .u64 (lo a.num.natAbs),.string (bg a.num.natAbs),.bool (a.num<0),.int .u64 (lo (a.den - 1)),.string (bg (a.den - 1))]) (hg:Gr w w'):Fs w' (.slice (some ⟨g,0,none⟩) 1 1) 1 (rf1_ a):=by
 have hc:=h.cells w' hg
 refine .inr ⟨g,0,1,rfl,(h.gr hg).lt,fun i hi j hj=>?_⟩
 obtain rfl:i=0:=by omega
 have e:0+0*5+j=j:=by omega
 rw [e,hc]
 match j,hj with
 | 0,_=>rfl
 | 1,_=>rfl
 | 2,_=>rfl
 | 3,_=>rfl
 | 4,_=>rfl
theorem fs2 {w w':World} {g:Nat} {a b:Rat} (h:Bx w g 36 #[.int .u64 (lo a.num.natAbs),.string (bg a.num.natAbs),.bool (a.num<0),.int .u64 (lo (a.den - 1)),.string (bg (a.den - 1)),.int .u64 (lo b.num.natAbs),.string (bg b.num.natAbs),.bool (b.num<0),.int .u64 (lo (b.den - 1)),.string (bg (b.den - 1))]) (hg:Gr w w'):Fs w' (.slice (some ⟨g,0,none⟩) 2 2) 2 (rf2_ a b):=by
 have hc:=h.cells w' hg
 refine .inr ⟨g,0,2,rfl,(h.gr hg).lt,fun i hi j hj=>?_⟩
 rcases (show i=0∨i=1 by omega) with rfl|rfl
 ·have e:0+0*5+j=j:=by omega
  rw [e,hc]
  match j,hj with
  | 0,_=>rfl
  | 1,_=>rfl
  | 2,_=>rfl
  | 3,_=>rfl
  | 4,_=>rfl
 ·have e:0+1*5+j=5+j:=by omega
  rw [e,hc]
  match j,hj with
  | 0,_=>rfl
  | 1,_=>rfl
  | 2,_=>rfl
  | 3,_=>rfl
  | 4,_=>rfl
theorem qB2 (a:Rat):qsum (rf1_ a) 1=a:=by show (0:Rat)+a=a;rw [Rat.zero_add]
theorem xq8 (a b z:Rat) (h:a+b=z):qsum (rf2_ a b) 2=z:=by show (0:Rat)+a+b=z;rw [Rat.zero_add];exact h
theorem fsz0 (f:Nat→Rat):∀ i,i<0→sz (f i)≤1000:=fun i hi=>absurd hi (Nat.not_lt_zero _)
theorem fsz1 {a:Rat} (h:sz a≤1000):∀ i,i<1→sz (rf1_ a i)≤1000:=fun i hi=>h
theorem fsz2 {a b:Rat} (h:sz a≤1000) (h2:sz b≤1000):∀ i,i<2→sz (rf2_ a b i)≤1000:=fun i hi=>by unfold rf2_;split <;> assumption
theorem qU5 (q:Rat) (s:ByteArray) (w:World) (h:ftx q=s) (hs:sz q≤100000) (HT:Hid (Tab w)) :
  Calls Tryz.prog 103 #[(Value.agg #[.int .u64 (lo q.num.natAbs),.string (bg q.num.natAbs),.bool (q.num<0),.int .u64 (lo (q.den - 1)),.string (bg (q.den - 1))])] w fun e w'=>e=.returned (.string s)∧Below w.heap.size w w':=h ▸ qw3 q w hs HT
theorem qv6 (q:Rat) (s:ByteArray) (b:Bool) (w:World) (HB_:Hid (((ftx q).toList == s.toList)=b)) (hs:sz q≤100000) (HT:Hid (Tab w)) :
  Calls Tryz.prog 90 #[(Value.agg #[.int .u64 (lo q.num.natAbs),.string (bg q.num.natAbs),.bool (q.num<0),.int .u64 (lo (q.den - 1)),.string (bg (q.den - 1))]),.string s] w fun e w'=>e=.returned ((.bool b))∧Below w.heap.size w w':=by
 go_enter Tryz.func90,Tryz.ntmps90
 have I:=lh_ (hp0 w)
 refine kS fun K O=>?_
 refine wp_region_lit ?_
 go_wp2
 refine kF_ O ((I.out).aL (w.heap.size)) fun Wx0 J=>?_;clear O K
 clear I;have I:=J;clear J
 have HB:=HPb I
 have hse:((ftx q).toList == s.toList)=b:=HB_.out
 have lx0:=c0_ I
 refine ks5_ fun K O T Y=>?_
 refine tk ?_
 refine ck Tryz.call103 (fun w' hw=>qw3 q _ om (lh_ (HT.out.gr (Gr.trans HB.out hw)))) ?_
 refine tk3_ ?_
 refine nlS Y I fun vw1 J=>?_
 clear Y T I lx0 HB
 go_wp2
 refine kF_ O ((J.out).er 0) fun Wx1 I=>?_;clear O K
 clear J
 clear hse
 refine wp_ret ?_
 try simp only [Exit.then,Exit.inBlock]
 exact bodyPost_ret (v:=.bool b) (by simp [results,Tryz.results90,go_sem]) rfl ⟨rfl,I.out.1⟩
theorem qF6 (n d:Int) (z:Rat) (w:World) (HZ:Hid ((n:Rat) / (d:Rat)=z)) (hd:d≠0) (h1:-9223372036854775808≤n) (h2:n≤9223372036854775807) (h3:-9223372036854775808≤d) (h4:d≤9223372036854775807) :
  Calls Tryz.prog 88 #[.int .i64 n,.int .i64 d] w fun e w'=>e=.returned (.agg #[.int .u64 (lo z.num.natAbs),.string (bg z.num.natAbs),.bool (z.num<0),.int .u64 (lo (z.den - 1)),.string (bg (z.den - 1))])∧Below w.heap.size w w':=by
 go_enter Tryz.func88,Tryz.ntmps88
 have I:=lh_ (hp0 w)
 refine kS fun K O=>?_
 refine wp_region_lit ?_
 go_wp2
 refine kF_ O ((I.out).aL (w.heap.size)) fun Wx0 J=>?_;clear O K
 clear I;have I:=J;clear J
 have HZ1:Hid (((n:Int):Rat) / ((d:Int):Rat)=z):=lh_ (HZ.out)
 have su1:sz z≤4:=by have e:=HZ1.out;first|omega|(rw [← e];exact qE6 n d om om om om)
 refine ks6_ fun K O T Y=>?_
 refine tk2_ ?_
 refine ck Tryz.call94 (fun w' hw=>qT1 n d z _ HZ1.out (by first|decide|omega) om om om om) ?_
 refine tk3_ ?_
 refine nlS Y I fun vw1 J=>?_
 clear Y T I
 go_wp2
 refine kF_ O ((J.out).aL (vw1.heap.size)) fun Wx1 I=>?_;clear O K
 clear J
 generalize vw1.heap.size=gx2 at *
 have lx2:=c1_ I
 refine ks1_ fun K O T Y=>?_
 refine tk ?_
 refine nlS Y I fun vw2 J=>?_
 clear Y T I lx2
 have lx0:=c0_ J;have fx0:=f0_ J
 have r0:=Gr.refl vw2
 go_wp2
 refine kO O ?_;clear O K
 clear r0 lx0 fx0
 refine fH (((((J.out).put2 0 0 rfl).put2 0 2 rfl).put 0 4 _ rfl).er 1) fun Wx2 I=>?_
 clear J
 refine wp_ret ?_
 try simp only [Exit.then,Exit.inBlock]
 have lx0:=c0_ I
 have r0:=Gr.refl Wx2
 exact bodyPost_ret (v:=.agg #[.int .u64 (lo z.num.natAbs),.string (bg z.num.natAbs),.bool (z.num<0),.int .u64 (lo (z.den - 1)),.string (bg (z.den - 1))]) (by simp [results,Tryz.results88,go_sem,lx0 _ r0]) rfl ⟨rfl,I.out.1⟩
theorem qm8 (a x y:Rat) (k:Nat) (tx ty t1 r:ByteArray) (w:World) (HA:Hid (0≤a)) (HX:Hid (rlo a k=x)) (HY:Hid (rhi a k=y)) (hk:k≤100) (hs:sz a≤500) (HTX:Hid (ftx x=tx)) (HTY:Hid (ftx y=ty)) (HC1:Hid (tx ++ (⟨#[32]⟩:ByteArray)=t1)) (HC2:Hid (t1 ++ ty=r)) (hz1:tx.size≤1000000) (hz2:ty.size≤1000000) (hz3:t1.size≤1000001) (HT:Hid (Tab w)) :
  Calls Tryz.prog 89 #[(Value.agg #[.int .u64 (lo a.num.natAbs),.string (bg a.num.natAbs),.bool (a.num<0),.int .u64 (lo (a.den - 1)),.string (bg (a.den - 1))]),.int .i64 (((k:Nat):Int))] w fun e w'=>e=.returned ((.string r))∧Below w.heap.size w w':=by
 go_enter Tryz.func89,Tryz.ntmps89
 have I:=lh_ (hp0 w)
 refine kS fun K O=>?_
 refine wp_region_lit ?_
 go_wp2
 refine kF_ O ((I.out).aL (w.heap.size)) fun Wx0 J=>?_;clear O K
 clear I;have I:=J;clear J
 have HZ1:Hid (rlo a k=x):=lh_ (HX.out)
 have su1:sz x≤510:=by have e:=HZ1.out;first|omega|(rw [← e];exact Nat.le_trans (qd2 om om) om)
 have lx0:=c0_ I
 refine ks6_ fun K O T Y=>?_
 refine tk2_ ?_
 refine ck Tryz.call23 (fun w' hw=>qb1 a x k _ (lh_ (by first|exact ok|exact HA.out)) (lh_ HZ1.out) om om) ?_
 refine tk3_ ?_
 refine nlS Y I fun vw1 J=>?_
 clear Y T I lx0
 go_wp2
 refine kF_ O ((J.out).aL (vw1.heap.size)) fun Wx1 I=>?_;clear O K
 clear J
 generalize vw1.heap.size=gx2 at *
 have HZ2:Hid (rhi a k=y):=lh_ (HY.out)
 have su2:sz y≤510:=by have e:=HZ2.out;first|omega|(rw [← e];exact Nat.le_trans (qd8 om om) om)
 have lx0:=c0_ I
 refine ks6_ fun K O T Y=>?_
 refine tk2_ ?_
 refine ck Tryz.call25 (fun w' hw=>qb6 a y k _ (lh_ (by first|exact ok|exact HA.out)) (lh_ HZ2.out) om om) ?_
 refine tk3_ ?_
 refine nlS Y I fun vw2 J=>?_
 clear Y T I lx0
 go_wp2
 refine kF_ O (((J.out).aL (vw2.heap.size)).er 0) fun Wx2 I=>?_;clear O K
 clear J
 generalize vw2.heap.size=gx3 at *
 have HB:=HPb I
 have hlen1:¬ (9223372036854775807<tx.size+1):=by omega
 have hcat1:tx ++ (⟨#[32]⟩:ByteArray)=t1:=HC1.out
 have hlen2:¬ (9223372036854775807<t1.size+ty.size):=by omega
 have hcat2:t1 ++ ty=r:=HC2.out
 have lx2:=c0_ I
 have lx3:=c1_ I
 refine kS fun K O=>?_
 refine xE7 fun T Y=>?_
 refine tk2_ ?_
 refine ck Tryz.call103 (fun w' hw=>qU5 x tx _ HTX.out om (lh_ (HT.out.gr (Gr.trans HB.out hw)))) ?_
 refine tk ?_
 refine ck Tryz.call103 (fun w' hw=>qU5 y ty _ HTY.out om (lh_ (HT.out.gr (Gr.trans HB.out hw)))) ?_
 refine tk ?_
 refine nlD Y I fun vw3 J=>?_
 clear Y T I lx2 lx3 HB
 go_wp2
 refine kF_ O (((J.out).er 1).er 0) fun Wx3 I=>?_;clear O K
 clear J
 clear hlen1 hcat1 hlen2 hcat2
 refine wp_ret ?_
 try simp only [Exit.then,Exit.inBlock]
 exact bodyPost_ret (v:=.string r) (by simp [results,Tryz.results89,go_sem]) rfl ⟨rfl,I.out.1⟩
theorem qr2:(Tryz.prog.info? 36).map (fun i=>(i.zero,i.size,i.bytes))=some (some (.agg #[.int .u64 0,.string ⟨#[]⟩,.bool false,.int .u64 0,.string ⟨#[]⟩]),5,56):=by kernel_rfl
theorem qz_ (a b l:Int) (x y q:Rat) (c:Int) (g:Nat) (w:World) (HX:Hid (((a:Int):Rat)=x)) (HY:Hid (((b:Int):Rat)=y)) (ha1:-1000≤a) (ha2:a≤1000) (hb1:-1000≤b) (hb2:b≤1000) (HXN:Hid (0≤x)) (HYN:Hid (0≤y)) (HLN:Hid (0≤q - (x+y))) (HQ0:Hid (((l:Int):Rat)=q)) (hl1:-1000≤l) (hl2:l≤1000) (hsq:sz q≤2) (HQN:Hid (0≤q)) (bx9:Bx w g 2 #[.int .i64 l]) (HC:Hid (sgQ ((4:Rat)*(x*y) - (q - (x+y))*(q - (x+y)))=c)) :
  Calls Tryz.prog 91 #[.int .i64 a,.int .i64 b,.slice (some ⟨g,0,none⟩) 1 1] w fun e w'=>e=.returned (.int .i64 c)∧Below w.heap.size w w':=by
 have hw1:IntKind.i64.wrap 1=1:=by decide
 obtain ⟨i0,hi,hz0,hz1,hz2⟩:=info_parts qr2
 go_enter Tryz.func91,Tryz.ntmps91
 have I:=lh_ (hp0 w)
 have BX9:=lh_ bx9;clear bx9
 refine kS fun K O=>?_
 refine wp_region_lit ?_
 go_wp2
 refine kF_ O (I.out) fun Wx0 J=>?_;clear O K
 clear I;have I:=J;clear J
 refine kS fun K O=>?_
 refine wp_region_lit ?_
 go_wp2
 refine kF_ O (I.out) fun Wx1 J=>?_;clear O K
 clear I;have I:=J;clear J
 refine wp_seq ?_
 refine kS fun K O=>?_
 refine wp_region_lit ?_
 go_wp2
 refine kF_ O (I.out) fun Wx2 J=>?_;clear O K
 clear I;have I:=J;clear J
 refine wp_block ?_
 refine wp_loop_rounds 3 ?_
 rw [rounds_succ]
 refine wp_seq ?_
 refine ks4_ fun K O T Y=>?_
 iterate 4 refine tk ?_
 refine nlS Y I fun vw1 J=>?_
 clear Y T I
 go_wp2
 refine kO O ?_;clear O K
 have I:=J;clear J
 refine wp_cond_true (by rfl) ?_
 refine wp_skip ?_
 show Code.wp _ _ _ _ _
 refine wp_seq ?_
 refine wp_block ?_
 have HQ:Hid (((l:Int):Rat)=q):=HQ0
 refine kL fun K O=>?_
 have e0:_:=BX9.out.cells _ I.out.1
 go_wp2_with fail
 refine (qb5 l q _ HQ.out om om).mono ?_
 rintro e w1 ⟨rfl,hb1⟩
 have HF1:=lh_ (I.out.gr hb1)
 clear hb1 e0 I
 have HN:=lh_ (show ∀ j u,[.int .u64 (lo q.num.natAbs),.string (bg q.num.natAbs),.bool (q.num<0),.int .u64 (lo (q.den - 1)),.string (bg (q.den - 1))][j]?=some u→(w1.alloc (.cells #[.int .u64 (lo q.num.natAbs),.string (bg q.num.natAbs),.bool (q.num<0),.int .u64 (lo (q.den - 1)),.string (bg (q.den - 1))] 36)).cell? ((⟨w1.heap.size,0,none⟩:Addr).add j)=some u from fun j u hj=>by
  match j,hj with
  | 0,hj=>simp at hj;subst hj;simp [Addr.add,go_sem]
  | 1,hj=>simp at hj;subst hj;simp [Addr.add,go_sem]
  | 2,hj=>simp at hj;subst hj;simp [Addr.add,go_sem]
  | 3,hj=>simp at hj;subst hj;simp [Addr.add,go_sem]
  | 4,hj=>simp at hj;subst hj;simp [Addr.add,go_sem])
 have HF2:=lh_ (HF1.out.gr (Gr.alloc _ (.cells #[.int .u64 (lo q.num.natAbs),.string (bg q.num.natAbs),.bool (q.num<0),.int .u64 (lo (q.den - 1)),.string (bg (q.den - 1))] 36)))
 have HA:Hid (Apart ([]:List (Sum (Nat × TypeId × Array Value) (Value × Nat))) (.slice none 0 0)):=lh_ (fun i x hx e=>by cases e)
 clear HF1
 go_wp2_with (first|(at_builtin;refine apX HF2 (lh_ (World.ownsRow_nil _ _ _ _)) HA (.tmp 17) (.tmp 23) 82 hi hz0 hz1 hz2 rfl Tryz.underlying82 (m:=1) (c:=1) (ad:=⟨w1.heap.size,0,none⟩) (news:=[.int .u64 (lo q.num.natAbs),.string (bg q.num.natAbs),.bool (q.num<0),.int .u64 (lo (q.den - 1)),.string (bg (q.den - 1))]) (by unfold maxLen;omega) om (by intro i v m h;rcases i with _|i <;> simp at h) (by simp [Act.eval,Act.put]) (by simp [Act.eval,Act.put]) HN rfl ?c1 (by decide) rfl rfl ?_)|fail)
 case c1=>intro u hu;simp at hu;rcases hu with rfl|rfl|rfl|rfl|rfl <;> rfl
 intro u' w3 HF3 HW3 HA3
 obtain ⟨gR,cur,I,HR⟩:∃ gR cur,Hid (HP w w3 [Sum.inl (gR,36,cur)])∧Hid (RowV gR cur 5 u' 1 (fcs (rf1_ q) 1)):=by
  obtain ⟨gR,cur,h1,h2⟩:=xh0 HF3.out HW3.out HA3.out om (by decide)
  exact ⟨gR,cur,lh_ h1,lh_ h2⟩
 clear HF2 HA HN HF3 HW3 HA3
 go_wp2_with fail
 refine kO O ?_;clear O K
 refine kL fun K O=>?_
 refine sq3_ fun T Y=>?_
 refine tk3_ ?_
 refine nlS Y I fun vw2 J=>?_
 clear Y T I
 go_wp2
 refine O.out _ _ ?_;clear O K
 show Code.rounds _ _ _ _ _ _
 rw [rounds_succ]
 have I:=J;clear J
 refine wp_seq ?_
 refine ks4_ fun K O T Y=>?_
 iterate 4 refine tk ?_
 refine nlS Y I fun vw3 J=>?_
 clear Y T I
 go_wp2
 refine kO O ?_;clear O K
 have I:=J;clear J
 refine wp_cond_false (by rfl) ?_
 refine wp_exit ?_
 show Code.wp _ _ _ _ _
 have HZ1:Hid (((a:Int):Rat)=x):=lh_ (HX.out)
 have su1:sz x≤2:=by have e:=HZ1.out;first|omega|(rw [← e];exact qj_ om om)
 have HZ2:Hid (((b:Int):Rat)=y):=lh_ (HY.out)
 have su2:sz y≤2:=by have e:=HZ2.out;first|omega|(rw [← e];exact qj_ om om)
 refine ql9 fun K O T Y=>?_
 refine tk ?_
 refine ck Tryz.call32 (fun w' hw=>qb5 a x _ HZ1.out om om) ?_
 refine tk ?_
 refine ck Tryz.call32 (fun w' hw=>qb5 b y _ HZ2.out om om) ?_
 refine tk ?_
 refine ck Tryz.call34 (fun w' hw=>qI_ x y q _ 1 (rf1_ q) _ c _ (lh_ (qW5 HR.out ((I.out.bx 0 rfl).gr hw))) om (lh_ (fsz1 om)) (lh_ (qB2 _)) (by first|omega|exact qd5 (qa4.2 (by decide +kernel)) (qa4.2 (by decide +kernel))) om om (lh_ (by first|exact ok|exact HXN.out|exact HYN.out|exact HQN.out|exact HLN.out)) (lh_ (by first|exact ok|exact HXN.out|exact HYN.out|exact HQN.out|exact HLN.out)) (lh_ (by first|exact ok|exact HXN.out|exact HYN.out|exact HQN.out|exact HLN.out)) (lh_ rfl) (lh_ (by first|exact ok|exact HXN.out|exact HYN.out|exact HQN.out|exact HLN.out)) (lh_ (HC.out))) ?_
 iterate 5 refine tk ?_
 refine nlS Y I fun vw4 J=>?_
 clear Y T I
 go_wp2
 refine kO O ?_;clear O K
 have I:=J;clear J
 refine wp_seq ?_
 refine ks2_ fun K O T Y=>?_
 refine tk2_ ?_
 refine nlS Y I fun vw5 J=>?_
 clear Y T I
 go_wp2
 refine kO O ?_;clear O K
 have I:=J;clear J
 refine wp_cond_false (by rfl) ?_
 refine wp_skip ?_
 show Code.wp _ _ _ _ _
 refine ks2_ fun K O T Y=>?_
 refine tk2_ ?_
 refine nlS Y I fun vw6 J=>?_
 clear Y T I
 go_wp2
 refine kO O ?_;clear O K
 have I:=J;clear J
 refine wp_ret ?_
 try simp only [Exit.then,Exit.inBlock]
 exact bodyPost_ret (v:=.int .i64 c) (by simp [results,Tryz.results91,go_sem]) rfl ⟨rfl,I.out.1⟩
theorem xs1 (a b:Int) (x y:Rat) (w:World) (HX:Hid (((a:Int):Rat)=x)) (HY:Hid (((b:Int):Rat)=y)) (ha1:-1000≤a) (ha2:a≤1000) (hb1:-1000≤b) (hb2:b≤1000) (HXN:Hid (0≤x)) (HYN:Hid (0≤y)) (HLN:Hid ((0:Rat) - (x+y)<0)) :
  Calls Tryz.prog 91 #[.int .i64 a,.int .i64 b,.slice none 0 0] w fun e w'=>e=.returned (.int .i64 1)∧Below w.heap.size w w':=by
 have hw1:IntKind.i64.wrap 1=1:=by decide
 obtain ⟨i0,hi,hz0,hz1,hz2⟩:=info_parts qr2
 go_enter Tryz.func91,Tryz.ntmps91
 have I:=lh_ (hp0 w)
 refine kS fun K O=>?_
 refine wp_region_lit ?_
 go_wp2
 refine kF_ O (I.out) fun Wx0 J=>?_;clear O K
 clear I;have I:=J;clear J
 refine kS fun K O=>?_
 refine wp_region_lit ?_
 go_wp2
 refine kF_ O (I.out) fun Wx1 J=>?_;clear O K
 clear I;have I:=J;clear J
 refine wp_seq ?_
 refine kS fun K O=>?_
 refine wp_region_lit ?_
 go_wp2
 refine kF_ O (I.out) fun Wx2 J=>?_;clear O K
 clear I;have I:=J;clear J
 refine wp_block ?_
 refine wp_loop_rounds 3 ?_
 rw [rounds_succ]
 refine wp_seq ?_
 refine ks4_ fun K O T Y=>?_
 iterate 4 refine tk ?_
 refine nlS Y I fun vw1 J=>?_
 clear Y T I
 go_wp2
 refine kO O ?_;clear O K
 have I:=J;clear J
 refine wp_cond_false (by rfl) ?_
 refine wp_exit ?_
 show Code.wp _ _ _ _ _
 have HZ1:Hid (((a:Int):Rat)=x):=lh_ (HX.out)
 have su1:sz x≤2:=by have e:=HZ1.out;first|omega|(rw [← e];exact qj_ om om)
 have HZ2:Hid (((b:Int):Rat)=y):=lh_ (HY.out)
 have su2:sz y≤2:=by have e:=HZ2.out;first|omega|(rw [← e];exact qj_ om om)
 refine ql9 fun K O T Y=>?_
 refine tk ?_
 refine ck Tryz.call32 (fun w' hw=>qb5 a x _ HZ1.out om om) ?_
 refine tk ?_
 refine ck Tryz.call32 (fun w' hw=>qb5 b y _ HZ2.out om om) ?_
 refine tk ?_
 refine ck Tryz.call34 (fun w' hw=>qJ1 x y (0:Rat) _ 0 (fun _=>0) _ _ (lh_ (fs0 _ _)) om (lh_ (fsz0 _)) (lh_ rfl) (by first|omega|exact qd5 (qa4.2 (by decide +kernel)) (qa4.2 (by decide +kernel))) om om (lh_ (by first|exact ok|exact HXN.out|exact HYN.out|exact HQN.out|exact HLN.out)) (lh_ (by first|exact ok|exact HXN.out|exact HYN.out|exact HQN.out|exact HLN.out)) (lh_ (by first|exact ok|exact HXN.out|exact HYN.out|exact HQN.out|exact HLN.out)) (lh_ rfl) (lh_ (by first|exact ok|exact HXN.out|exact HYN.out|exact HQN.out|exact HLN.out))) ?_
 iterate 5 refine tk ?_
 refine nlS Y I fun vw2 J=>?_
 clear Y T I
 go_wp2
 refine kO O ?_;clear O K
 have I:=J;clear J
 refine wp_seq ?_
 refine ks2_ fun K O T Y=>?_
 refine tk2_ ?_
 refine nlS Y I fun vw3 J=>?_
 clear Y T I
 go_wp2
 refine kO O ?_;clear O K
 have I:=J;clear J
 refine wp_cond_false (by rfl) ?_
 refine wp_skip ?_
 show Code.wp _ _ _ _ _
 refine ks2_ fun K O T Y=>?_
 refine tk2_ ?_
 refine nlS Y I fun vw4 J=>?_
 clear Y T I
 go_wp2
 refine kO O ?_;clear O K
 have I:=J;clear J
 refine wp_ret ?_
 try simp only [Exit.then,Exit.inBlock]
 exact bodyPost_ret (v:=.int .i64 1) (by simp [results,Tryz.results91,go_sem]) rfl ⟨rfl,I.out.1⟩
end Go.Proofs.YtaflakcemiilaaaGreatDoor

set_option linter.unusedVariables false
set_option linter.unusedSimpArgs false
namespace Go.Proofs.YtaflakcemiilaaaGreatDoor
open Go.RowKit
section
variable {P:Program} {ops:Array Oper} {md:Region.Mode}
def qn_ (is:List Nat) (i j:Nat):Bool:=decide (j<i) || is.contains j
def UpTo (is:List Nat) (size i:Nat) (listed:Array Bool):Prop:=listed.size=size∧∀ j,j<size→listed.getD j true=qn_ is i j
theorem xf7 {a:Array Bool} {j:Nat} (h:j<a.size) (d e:Bool):a.getD j d=a.getD j e:=by
 simp [Array.getD,h]
theorem UpTo.off {is:List Nat} {size i:Nat} {listed:Array Bool} (h:UpTo is size i listed) (his:∀ j ∈ is,j<size) (hi:i≤size) (j:Nat) (hj:qn_ is i j=true):listed.getD j false=true:=by
 have hlt:j<size:=by
  simp only [qn_,Bool.or_eq_true,decide_eq_true_eq,List.contains_eq_mem] at hj
  rcases hj with hj|hj
  ·omega
  ·exact his j hj
 rw [xf7 (by rw [h.1];exact hlt) false true,h.2 j hlt,hj]
theorem UpTo.skip {is:List Nat} {size i:Nat} {listed:Array Bool} (h:UpTo is size i listed) (hi:is.contains i=true):UpTo is size (i+1) listed:=by
 refine ⟨h.1,fun j hj=>?_⟩
 rw [h.2 j hj]
 unfold qn_
 by_cases e:j=i
 ·subst e;rw [hi];simp
 ·rw [show decide (j<i+1)=decide (j<i) from decide_eq_decide.2 (by omega)]
theorem UpTo.set {is:List Nat} {size i:Nat} {listed:Array Bool} (h:UpTo is size i listed):UpTo is size (i+1) (listed.setIfInBounds i true):=by
 refine ⟨by simp [h.1],fun j hj=>?_⟩
 have hs:j<listed.size:=by rw [h.1];exact hj
 by_cases e:j=i
 ·subst e
  rw [Array.getD_eq_getD_getElem?,Array.getElem?_setIfInBounds_self_of_lt hs]
  simp [qn_]
 ·rw [Array.getD_eq_getD_getElem?,Array.getElem?_setIfInBounds_ne (Ne.symm e),← Array.getD_eq_getD_getElem?,h.2 j hj]
  unfold qn_
  rw [show decide (j<i+1)=decide (j<i) from decide_eq_decide.2 (by omega)]
theorem UpTo.canon {is:List Nat} {size n:Nat} {listed:Array Bool} (h:UpTo is size n listed) (his:∀ j ∈ is,j<n):listed=canon n size:=by
 apply Array.ext
 ·rw [h.1];simp [Go.Proofs.YtaflakcemiilaaaGreatDoor.canon]
 ·intro j h1 h2
  have hj:j<size:=by rw [← h.1];exact h1
  have:=h.2 j hj
  rw [Array.getD_eq_getD_getElem?,Array.getElem?_eq_getElem h1,Option.getD_some] at this
  rw [this]
  simp only [Go.Proofs.YtaflakcemiilaaaGreatDoor.canon,Array.getElem_ofFn,qn_]
  by_cases e:j<n
  ·simp [e]
  ·have:¬ j ∈ is:=fun hm=>e (his j hm)
   simp [e,this]
end
end Go.Proofs.YtaflakcemiilaaaGreatDoor
