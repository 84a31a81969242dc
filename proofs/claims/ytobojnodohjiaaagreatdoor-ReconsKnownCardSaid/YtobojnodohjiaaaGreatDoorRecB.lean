
/- recons: Far, Fits. -/
import Derived.Test.YtobojnodohjiaaaGreatDoorRecA
set_option maxRecDepth 100000
set_option maxHeartbeats 16000000
set_option linter.unusedVariables false
set_option linter.unusedSimpArgs false
namespace Go.Proofs.YtobojnodohjiaaaGreatDoor
open Go.RowKit
attribute [local go_sem ↓] Go.wp_at_zero Go.wp_at_succ
attribute [local go_sem ↓] qb8 qa3 qc8
attribute [local go_sem ↓] qb8 qa3 qd9 qb7
theorem xz6 (q:Rat) (m:Nat) (w:World) (HA:Hid (¬ 2*((q.num).natAbs*(q.num).natAbs)<m)) (hs:sz q≤600) (hwm:wl m≤1200) :
  Calls Tryz.prog 34 #[(Value.agg #[.int .u64 (lo q.num.natAbs),.string (bg q.num.natAbs),.bool (q.num<0),.int .u64 (lo (q.den - 1)),.string (bg (q.den - 1))]),(Value.agg #[.int .u64 (lo m),.string (bg m)])] w fun e w'=>e=.returned ((.bool false))∧Below w.heap.size w w':=by
 go_enter Tryz.func34,Tryz.ntmps34
 have I:=lh_ (hp0 w)
 refine kS fun K O=>?_
 refine wp_region_lit ?_
 go_wp2
 refine kF_ O (((I.out).aL (w.heap.size)).aL (w.heap.size+1)) fun Wx0 J=>?_;clear O K
 clear I;have I:=J;clear J
 generalize w.heap.size+1=gx1 at *
 have su1:wl q.num.natAbs≤600:=Nat.le_trans (qc3 _) om
 have lx0:=kc0_ I
 have lx1:=kc1_ I
 refine kS fun K O=>?_
 refine xo9 fun T Y=>?_
 refine tk2_ ?_
 refine ck Tryz.call40 (fun w' hw=>qh8 q _) ?_
 refine ck Tryz.call100 (fun w' hw=>qf2 (q.num) _) ?_
 refine ck Tryz.call99 (fun w' hw=>qz_ q.num.natAbs m false _ (decide_eq_false (HA.out)) om om) ?_
 refine tk ?_
 iterate 4 refine sk ?_
 refine tk ?_
 refine nlD Y I fun vw1 J=>?_
 clear Y T I lx0 lx1
 go_wp2
 refine kF_ O (((J.out).er 1).er 0) fun Wx1 I=>?_;clear O K
 clear J
 refine wp_ret ?_
 try simp only [Exit.then,Exit.inBlock]
 exact bodyPost_ret (v:=.bool false) (by simp [results,Tryz.results34,go_sem]) rfl ⟨rfl,I.out.1⟩
theorem xz7 (q:Rat) (m:Nat) (w:World) (HA:Hid (2*((q.num).natAbs*(q.num).natAbs)<m)) (HFB:Hid (¬ 2*(q.den*q.den)<m)) (hs:sz q≤600) (hwm:wl m≤1200) :
  Calls Tryz.prog 34 #[(Value.agg #[.int .u64 (lo q.num.natAbs),.string (bg q.num.natAbs),.bool (q.num<0),.int .u64 (lo (q.den - 1)),.string (bg (q.den - 1))]),(Value.agg #[.int .u64 (lo m),.string (bg m)])] w fun e w'=>e=.returned ((.bool false))∧Below w.heap.size w w':=by
 go_enter Tryz.func34,Tryz.ntmps34
 have I:=lh_ (hp0 w)
 refine kS fun K O=>?_
 refine wp_region_lit ?_
 go_wp2
 refine kF_ O (((I.out).aL (w.heap.size)).aL (w.heap.size+1)) fun Wx0 J=>?_;clear O K
 clear I;have I:=J;clear J
 generalize w.heap.size+1=gx1 at *
 have su1:wl q.num.natAbs≤600:=Nat.le_trans (qc3 _) om
 have su2:wl (q.den)≤600:=Nat.le_trans (qb_ _) om
 have sp2:0<(q).den:=(q).den_pos
 have lx0:=kc0_ I
 have lx1:=kc1_ I
 refine kS fun K O=>?_
 refine xo9 fun T Y=>?_
 refine tk2_ ?_
 refine ck Tryz.call40 (fun w' hw=>qh8 q _) ?_
 refine ck Tryz.call100 (fun w' hw=>qf2 (q.num) _) ?_
 refine ck Tryz.call99 (fun w' hw=>qz_ q.num.natAbs m true _ (decide_eq_true (HA.out)) om om) ?_
 refine tk3_ ?_
 refine ck Tryz.call38 (fun w' hw=>qf5 q _ om) ?_
 refine ck Tryz.call99 (fun w' hw=>qz_ (q.den) m false _ (decide_eq_false (HFB.out)) om om) ?_
 refine tk ?_
 refine nlD Y I fun vw1 J=>?_
 clear Y T I lx0 lx1
 go_wp2
 refine kF_ O (((J.out).er 1).er 0) fun Wx1 I=>?_;clear O K
 clear J
 refine wp_ret ?_
 try simp only [Exit.then,Exit.inBlock]
 exact bodyPost_ret (v:=.bool false) (by simp [results,Tryz.results34,go_sem]) rfl ⟨rfl,I.out.1⟩
theorem xz8 (q:Rat) (m:Nat) (w:World) (HA:Hid (2*((q.num).natAbs*(q.num).natAbs)<m)) (HFB:Hid (2*(q.den*q.den)<m)) (hs:sz q≤600) (hwm:wl m≤1200) :
  Calls Tryz.prog 34 #[(Value.agg #[.int .u64 (lo q.num.natAbs),.string (bg q.num.natAbs),.bool (q.num<0),.int .u64 (lo (q.den - 1)),.string (bg (q.den - 1))]),(Value.agg #[.int .u64 (lo m),.string (bg m)])] w fun e w'=>e=.returned ((.bool true))∧Below w.heap.size w w':=by
 go_enter Tryz.func34,Tryz.ntmps34
 have I:=lh_ (hp0 w)
 refine kS fun K O=>?_
 refine wp_region_lit ?_
 go_wp2
 refine kF_ O (((I.out).aL (w.heap.size)).aL (w.heap.size+1)) fun Wx0 J=>?_;clear O K
 clear I;have I:=J;clear J
 generalize w.heap.size+1=gx1 at *
 have su1:wl q.num.natAbs≤600:=Nat.le_trans (qc3 _) om
 have su2:wl (q.den)≤600:=Nat.le_trans (qb_ _) om
 have sp2:0<(q).den:=(q).den_pos
 have lx0:=kc0_ I
 have lx1:=kc1_ I
 refine kS fun K O=>?_
 refine xo9 fun T Y=>?_
 refine tk2_ ?_
 refine ck Tryz.call40 (fun w' hw=>qh8 q _) ?_
 refine ck Tryz.call100 (fun w' hw=>qf2 (q.num) _) ?_
 refine ck Tryz.call99 (fun w' hw=>qz_ q.num.natAbs m true _ (decide_eq_true (HA.out)) om om) ?_
 refine tk3_ ?_
 refine ck Tryz.call38 (fun w' hw=>qf5 q _ om) ?_
 refine ck Tryz.call99 (fun w' hw=>qz_ (q.den) m true _ (decide_eq_true (HFB.out)) om om) ?_
 refine tk ?_
 refine nlD Y I fun vw1 J=>?_
 clear Y T I lx0 lx1
 go_wp2
 refine kF_ O (((J.out).er 1).er 0) fun Wx1 I=>?_;clear O K
 clear J
 refine wp_ret ?_
 try simp only [Exit.then,Exit.inBlock]
 exact bodyPost_ret (v:=.bool true) (by simp [results,Tryz.results34,go_sem]) rfl ⟨rfl,I.out.1⟩
theorem rFar (q:Rat) (m:Nat) (b:Bool) (w:World) (hb:decide (rfar q m)=b) (hs:sz q≤600) (hm:wl m≤1200) :
  Calls Tryz.prog 34 #[(Value.agg #[.int .u64 (lo q.num.natAbs),.string (bg q.num.natAbs),.bool (q.num<0),.int .u64 (lo (q.den - 1)),.string (bg (q.den - 1))]),(Value.agg #[.int .u64 (lo m),.string (bg m)])] w fun e w'=>e=.returned (.bool b)∧Below w.heap.size w w':=by
 subst hb
 by_cases h1:2*((q.num).natAbs*(q.num).natAbs)<m
 ·by_cases h2:2*(q.den*q.den)<m
  ·rw [decide_eq_true (show rfar q m from ⟨h1,h2⟩)];exact xz8 q m w (lh_ h1) (lh_ h2) hs hm
  ·rw [decide_eq_false (show ¬ rfar q m from fun h=>h2 h.2)];exact xz7 q m w (lh_ h1) (lh_ h2) hs hm
 ·rw [decide_eq_false (show ¬ rfar q m from fun h=>h1 h.1)];exact xz6 q m w (lh_ h1) hs hm
theorem xq2 (q:Rat) (a:Int) (m:Nat) (w:World) (HM0:Hid (m=0)) (hs:sz q≤600) (hwa:wl a.natAbs≤1200) (hwm:wl m≤1200) :
  Calls Tryz.prog 33 #[(Value.agg #[.int .u64 (lo q.num.natAbs),.string (bg q.num.natAbs),.bool (q.num<0),.int .u64 (lo (q.den - 1)),.string (bg (q.den - 1))]),(Value.agg #[.int .u64 (lo a.natAbs),.string (bg a.natAbs),.bool (a<0)]),(Value.agg #[.int .u64 (lo m),.string (bg m)])] w fun e w'=>e=.returned ((.bool false))∧Below w.heap.size w w':=by
 go_enter Tryz.func33,Tryz.ntmps33
 have I:=lh_ (hp0 w)
 refine kS fun K O=>?_
 refine wp_region_lit ?_
 go_wp2
 refine kF_ O ((((I.out).aL (w.heap.size)).aL (w.heap.size+1)).aL (w.heap.size+1+1)) fun Wx0 J=>?_;clear O K
 clear I;have I:=J;clear J
 generalize w.heap.size+1+1=gx2 at *
 generalize w.heap.size+1=gx1 at *
 refine wp_seq ?_
 have hd1:decide (m=0)=true:=decide_eq_true (by first|exact ok|exact HM0.out|exact HC1.out|exact HZ0.out)
 have lx0:=kc0_ I
 have lx2:=kc2_ I
 refine kS fun K O=>?_
 refine xe7 fun T Y=>?_
 iterate 4 refine tk ?_
 iterate 6 refine sk ?_
 refine nlD Y I fun vw1 J=>?_
 clear Y T I lx0 lx2
 go_wp2
 refine kO O ?_;clear O K
 have I:=J;clear J
 clear hd1
 refine wp_cond_true (by rfl) ?_
 refine kS fun K O=>?_
 refine wp_region_lit ?_
 go_wp2
 refine kF_ O (I.out) fun Wx2 J=>?_;clear O K
 clear I;have I:=J;clear J
 refine wp_ret ?_
 try simp only [Exit.then,Exit.inBlock]
 exact bodyPost_ret (v:=.bool false) (by simp [results,Tryz.results33,go_sem]) rfl ⟨rfl,I.out.1⟩
theorem xp_ (q:Rat) (a:Int) (m:Nat) (c:Nat) (w:World) (HM0:Hid (¬ m=0)) (HC:Hid (Nat.gcd q.den m=c)) (HC1:Hid (¬ c=1)) (hs:sz q≤600) (hwa:wl a.natAbs≤1200) (hwm:wl m≤1200) :
  Calls Tryz.prog 33 #[(Value.agg #[.int .u64 (lo q.num.natAbs),.string (bg q.num.natAbs),.bool (q.num<0),.int .u64 (lo (q.den - 1)),.string (bg (q.den - 1))]),(Value.agg #[.int .u64 (lo a.natAbs),.string (bg a.natAbs),.bool (a<0)]),(Value.agg #[.int .u64 (lo m),.string (bg m)])] w fun e w'=>e=.returned ((.bool false))∧Below w.heap.size w w':=by
 go_enter Tryz.func33,Tryz.ntmps33
 have I:=lh_ (hp0 w)
 refine kS fun K O=>?_
 refine wp_region_lit ?_
 go_wp2
 refine kF_ O ((((I.out).aL (w.heap.size)).aL (w.heap.size+1)).aL (w.heap.size+1+1)) fun Wx0 J=>?_;clear O K
 clear I;have I:=J;clear J
 generalize w.heap.size+1+1=gx2 at *
 generalize w.heap.size+1=gx1 at *
 refine wp_seq ?_
 have hd1:decide (m=0)=false:=decide_eq_false (by first|exact ok|exact HM0.out|exact HC1.out|exact HZ0.out)
 have su1:wl (q.den)≤600:=Nat.le_trans (qb_ _) om
 have sp1:0<(q).den:=(q).den_pos
 have HZ2:Hid (Nat.gcd (q.den) m=c):=lh_ (HC.out)
 have su2:wl c≤1200:=by have e:=HZ2.out;first|omega|(rw [← e];have:=qA9 (q.den) m;omega)
 have su_0_1:wl 1≤1:=qb1.2 (by decide +kernel)
 have hd2:decide (c=1)=false:=decide_eq_false (by first|exact ok|exact HM0.out|exact HC1.out|exact HZ0.out)
 have lx0:=kc0_ I
 have lx2:=kc2_ I
 refine kS fun K O=>?_
 refine xe7 fun T Y=>?_
 iterate 6 refine tk ?_
 refine ck Tryz.call38 (fun w' hw=>qf5 q _ om) ?_
 refine ck Tryz.call111 (fun w' hw=>xo3 (q.den) m c _ HZ2.out om om) ?_
 refine ck Tryz.call24 (fun w' hw=>nzof 1 _ (by decide)) ?_
 refine tk ?_
 refine nlD Y I fun vw1 J=>?_
 clear Y T I lx0 lx2
 go_wp2
 refine kO O ?_;clear O K
 have I:=J;clear J
 clear hd1 hd2
 refine wp_cond_true (by rfl) ?_
 refine kS fun K O=>?_
 refine wp_region_lit ?_
 go_wp2
 refine kF_ O (I.out) fun Wx2 J=>?_;clear O K
 clear I;have I:=J;clear J
 refine wp_ret ?_
 try simp only [Exit.then,Exit.inBlock]
 exact bodyPost_ret (v:=.bool false) (by simp [results,Tryz.results33,go_sem]) rfl ⟨rfl,I.out.1⟩
theorem xq0 (q:Rat) (a:Int) (m:Nat) (p d:Int) (z:Int) (w:World) (HM0:Hid (¬ m=0)) (HC:Hid (Nat.gcd q.den m=1)) (HP:Hid (a*((q.den:Nat):Int)=p)) (HD:Hid (q.num - p=d)) (HZ:Hid (d % ((m:Nat):Int)=z)) (HZ0:Hid (¬ z=0)) (hs:sz q≤600) (hwa:wl a.natAbs≤1200) (hwm:wl m≤1200) :
  Calls Tryz.prog 33 #[(Value.agg #[.int .u64 (lo q.num.natAbs),.string (bg q.num.natAbs),.bool (q.num<0),.int .u64 (lo (q.den - 1)),.string (bg (q.den - 1))]),(Value.agg #[.int .u64 (lo a.natAbs),.string (bg a.natAbs),.bool (a<0)]),(Value.agg #[.int .u64 (lo m),.string (bg m)])] w fun e w'=>e=.returned ((.bool false))∧Below w.heap.size w w':=by
 go_enter Tryz.func33,Tryz.ntmps33
 have I:=lh_ (hp0 w)
 refine kS fun K O=>?_
 refine wp_region_lit ?_
 go_wp2
 refine kF_ O ((((I.out).aL (w.heap.size)).aL (w.heap.size+1)).aL (w.heap.size+1+1)) fun Wx0 J=>?_;clear O K
 clear I;have I:=J;clear J
 generalize w.heap.size+1+1=gx2 at *
 generalize w.heap.size+1=gx1 at *
 refine wp_seq ?_
 have hd1:decide (m=0)=false:=decide_eq_false (by first|exact ok|exact HM0.out|exact HC1.out|exact HZ0.out)
 have su1:wl (q.den)≤600:=Nat.le_trans (qb_ _) om
 have sp1:0<(q).den:=(q).den_pos
 have HZ2:Hid (Nat.gcd (q.den) m=1):=lh_ (HC.out)
 have su2:wl (1)≤1200:=by have e:=HZ2.out;first|omega|(rw [← e];have:=qA9 (q.den) m;omega)|exact qb1.2 (by decide +kernel)
 have su_0_1:wl 1≤1:=qb1.2 (by decide +kernel)
 have lx0:=kc0_ I
 have lx2:=kc2_ I
 refine kS fun K O=>?_
 refine xe7 fun T Y=>?_
 iterate 6 refine tk ?_
 refine ck Tryz.call38 (fun w' hw=>qf5 q _ om) ?_
 refine ck Tryz.call111 (fun w' hw=>xo3 (q.den) m (1) _ HZ2.out om om) ?_
 refine ck Tryz.call24 (fun w' hw=>nzof 1 _ (by decide)) ?_
 refine tk ?_
 refine nlD Y I fun vw1 J=>?_
 clear Y T I lx0 lx2
 go_wp2
 refine kO O ?_;clear O K
 have I:=J;clear J
 clear hd1
 refine wp_cond_false (by rfl) ?_
 refine wp_skip ?_
 show Code.wp _ _ _ _ _
 have su3:wl q.num.natAbs≤600:=Nat.le_trans (qc3 _) om
 have su4:wl (q.den)≤600:=Nat.le_trans (qb_ _) om
 have sp4:0<(q).den:=(q).den_pos
 have su5:wl (Int.natAbs ((q.den:Nat):Int))≤600:=by rw [Int.natAbs_natCast];omega
 have HZ6:Hid (a*(((q.den:Nat):Int))=p):=lh_ (HP.out)
 have su6:wl p.natAbs≤1800:=by have e:=HZ6.out;first|omega|(rw [← e];have:=qd7 a (((q.den:Nat):Int));omega)
 have HZ7:Hid ((q.num) - p=d):=lh_ (HD.out)
 have su7:wl d.natAbs≤1801:=by have e:=HZ7.out;first|omega|(rw [← e];have:=qj4 (q.num) p;omega)
 have HZ8:Hid (d % ((m:Nat):Int)=z):=lh_ (HZ.out)
 have su8:wl z.natAbs≤1200:=by have e:=HZ8.out;first|omega|(rw [← e];exact qx8 (by have e9:=HM0.out;omega) om)
 have lx0:=kc0_ I
 have lx1:=kc1_ I
 have lx2:=kc2_ I
 refine kS fun K O=>?_
 refine qa1 11 [10] [] (fun _=>7) (fun _=>.cells #[.int .u64 0,.string ⟨#[]⟩,.bool false] 34) [(true,0),(true,2),(true,3),(true,8),(true,1),(true,4),(true,5),(true,6),(true,7),(true,9)] (by kernel_rfl) (by kernel_rfl) (by intro i hi;simp only [List.mem_cons,List.not_mem_nil,or_false] at hi;rcases hi with rfl <;> exact ⟨_,rfl,rfl,rfl,by simp,fun ρ w=>by kernel_rfl⟩) (fun i hi=>by cases hi) (fun _ _ _ _ _ h=>h) (fun T Y=>?_)
 iterate 4 refine tk ?_
 refine ck Tryz.call40 (fun w' hw=>qh8 q _) ?_
 refine ck Tryz.call38 (fun w' hw=>qf5 q _ om) ?_
 refine ck Tryz.call95 (fun w' hw=>qe2 (q.den) _) ?_
 refine ck Tryz.call39 (fun w' hw=>ql_ a (((q.den:Nat):Int)) p _ HZ6.out om om) ?_
 refine ck Tryz.call98 (fun w' hw=>qB1 (q.num) p d _ HZ7.out om om) ?_
 refine ck Tryz.call96 (fun w' hw=>qn9 d z m _ (lh_ HZ8.out) (by have e9:=HM0.out;omega) om om) ?_
 refine qa0 (Y.out _ _ ?_)
 intro G vw2 hg hf
 simp only [puts,Act.put,lA,lB,lC,lD,lE,↓reduceIte,Nat.reduceEqDiff]
 have J:=lh_ (I.out.fr hg hf (zs:=[(#[.int .u64 0,.string ⟨#[]⟩,.bool false],34)]) rfl (by decide) (by decide))
 simp only [zq1_,zq2_,zq3_,zq4_,lF,lG] at J
 clear Y T I hg hf lx0 lx1 lx2
 generalize G 10=gx4 at *
 have lx4:=kc3_ J;have fx4:=kf3_ J
 have r0:=Gr.refl vw2
 go_wp2
 refine kO O ?_;clear O K
 clear r0 lx4 fx4
 refine fH ((((((J.out).put2 3 0 rfl).put 3 2 _ rfl).er 2).er 1).er 0) fun Wx3 I=>?_
 clear J
 have hd2:decide (z=0)=false:=decide_eq_false (by first|exact ok|exact HM0.out|exact HC1.out|exact HZ0.out)
 have lx4:=kc0_ I
 refine ks4_ fun K O T Y=>?_
 iterate 4 refine tk ?_
 refine nlS Y I fun vw3 J=>?_
 clear Y T I lx4
 go_wp2
 refine kF_ O ((J.out).er 0) fun Wx4 I=>?_;clear O K
 clear J
 clear hd2
 refine wp_ret ?_
 try simp only [Exit.then,Exit.inBlock]
 exact bodyPost_ret (v:=.bool false) (by simp [results,Tryz.results33,go_sem]) rfl ⟨rfl,I.out.1⟩
theorem xq1 (q:Rat) (a:Int) (m:Nat) (p d:Int) (w:World) (HM0:Hid (¬ m=0)) (HC:Hid (Nat.gcd q.den m=1)) (HP:Hid (a*((q.den:Nat):Int)=p)) (HD:Hid (q.num - p=d)) (HZ:Hid (d % ((m:Nat):Int)=0)) (hs:sz q≤600) (hwa:wl a.natAbs≤1200) (hwm:wl m≤1200) :
  Calls Tryz.prog 33 #[(Value.agg #[.int .u64 (lo q.num.natAbs),.string (bg q.num.natAbs),.bool (q.num<0),.int .u64 (lo (q.den - 1)),.string (bg (q.den - 1))]),(Value.agg #[.int .u64 (lo a.natAbs),.string (bg a.natAbs),.bool (a<0)]),(Value.agg #[.int .u64 (lo m),.string (bg m)])] w fun e w'=>e=.returned ((.bool true))∧Below w.heap.size w w':=by
 go_enter Tryz.func33,Tryz.ntmps33
 have I:=lh_ (hp0 w)
 refine kS fun K O=>?_
 refine wp_region_lit ?_
 go_wp2
 refine kF_ O ((((I.out).aL (w.heap.size)).aL (w.heap.size+1)).aL (w.heap.size+1+1)) fun Wx0 J=>?_;clear O K
 clear I;have I:=J;clear J
 generalize w.heap.size+1+1=gx2 at *
 generalize w.heap.size+1=gx1 at *
 refine wp_seq ?_
 have hd1:decide (m=0)=false:=decide_eq_false (by first|exact ok|exact HM0.out|exact HC1.out|exact HZ0.out)
 have su1:wl (q.den)≤600:=Nat.le_trans (qb_ _) om
 have sp1:0<(q).den:=(q).den_pos
 have HZ2:Hid (Nat.gcd (q.den) m=1):=lh_ (HC.out)
 have su2:wl (1)≤1200:=by have e:=HZ2.out;first|omega|(rw [← e];have:=qA9 (q.den) m;omega)|exact qb1.2 (by decide +kernel)
 have su_0_1:wl 1≤1:=qb1.2 (by decide +kernel)
 have lx0:=kc0_ I
 have lx2:=kc2_ I
 refine kS fun K O=>?_
 refine xe7 fun T Y=>?_
 iterate 6 refine tk ?_
 refine ck Tryz.call38 (fun w' hw=>qf5 q _ om) ?_
 refine ck Tryz.call111 (fun w' hw=>xo3 (q.den) m (1) _ HZ2.out om om) ?_
 refine ck Tryz.call24 (fun w' hw=>nzof 1 _ (by decide)) ?_
 refine tk ?_
 refine nlD Y I fun vw1 J=>?_
 clear Y T I lx0 lx2
 go_wp2
 refine kO O ?_;clear O K
 have I:=J;clear J
 clear hd1
 refine wp_cond_false (by rfl) ?_
 refine wp_skip ?_
 show Code.wp _ _ _ _ _
 have su3:wl q.num.natAbs≤600:=Nat.le_trans (qc3 _) om
 have su4:wl (q.den)≤600:=Nat.le_trans (qb_ _) om
 have sp4:0<(q).den:=(q).den_pos
 have su5:wl (Int.natAbs ((q.den:Nat):Int))≤600:=by rw [Int.natAbs_natCast];omega
 have HZ6:Hid (a*(((q.den:Nat):Int))=p):=lh_ (HP.out)
 have su6:wl p.natAbs≤1800:=by have e:=HZ6.out;first|omega|(rw [← e];have:=qd7 a (((q.den:Nat):Int));omega)
 have HZ7:Hid ((q.num) - p=d):=lh_ (HD.out)
 have su7:wl d.natAbs≤1801:=by have e:=HZ7.out;first|omega|(rw [← e];have:=qj4 (q.num) p;omega)
 have HZ8:Hid (d % ((m:Nat):Int)=0):=lh_ (HZ.out)
 have su8:wl (Int.natAbs (0))≤1200:=by have e:=HZ8.out;first|omega|(rw [← e];exact qx8 (by have e9:=HM0.out;omega) om)|exact qb1.2 (by decide +kernel)
 have lx0:=kc0_ I
 have lx1:=kc1_ I
 have lx2:=kc2_ I
 refine kS fun K O=>?_
 refine qa1 11 [10] [] (fun _=>7) (fun _=>.cells #[.int .u64 0,.string ⟨#[]⟩,.bool false] 34) [(true,0),(true,2),(true,3),(true,8),(true,1),(true,4),(true,5),(true,6),(true,7),(true,9)] (by kernel_rfl) (by kernel_rfl) (by intro i hi;simp only [List.mem_cons,List.not_mem_nil,or_false] at hi;rcases hi with rfl <;> exact ⟨_,rfl,rfl,rfl,by simp,fun ρ w=>by kernel_rfl⟩) (fun i hi=>by cases hi) (fun _ _ _ _ _ h=>h) (fun T Y=>?_)
 iterate 4 refine tk ?_
 refine ck Tryz.call40 (fun w' hw=>qh8 q _) ?_
 refine ck Tryz.call38 (fun w' hw=>qf5 q _ om) ?_
 refine ck Tryz.call95 (fun w' hw=>qe2 (q.den) _) ?_
 refine ck Tryz.call39 (fun w' hw=>ql_ a (((q.den:Nat):Int)) p _ HZ6.out om om) ?_
 refine ck Tryz.call98 (fun w' hw=>qB1 (q.num) p d _ HZ7.out om om) ?_
 refine ck Tryz.call96 (fun w' hw=>qn9 d (0) m _ (lh_ HZ8.out) (by have e9:=HM0.out;omega) om om) ?_
 refine qa0 (Y.out _ _ ?_)
 intro G vw2 hg hf
 simp only [puts,Act.put,lA,lB,lC,lD,lE,↓reduceIte,Nat.reduceEqDiff]
 have J:=lh_ (I.out.fr hg hf (zs:=[(#[.int .u64 0,.string ⟨#[]⟩,.bool false],34)]) rfl (by decide) (by decide))
 simp only [zq1_,zq2_,zq3_,zq4_,lF,lG] at J
 clear Y T I hg hf lx0 lx1 lx2
 generalize G 10=gx4 at *
 have lx4:=kc3_ J;have fx4:=kf3_ J
 have r0:=Gr.refl vw2
 go_wp2
 refine kO O ?_;clear O K
 clear r0 lx4 fx4
 refine fH ((((((J.out).put2 3 0 rfl).put 3 2 _ rfl).er 2).er 1).er 0) fun Wx3 I=>?_
 clear J
 have lx4:=kc0_ I
 refine ks4_ fun K O T Y=>?_
 iterate 4 refine tk ?_
 refine nlS Y I fun vw3 J=>?_
 clear Y T I lx4
 go_wp2
 refine kF_ O ((J.out).er 0) fun Wx4 I=>?_;clear O K
 clear J
 refine wp_ret ?_
 try simp only [Exit.then,Exit.inBlock]
 exact bodyPost_ret (v:=.bool true) (by simp [results,Tryz.results33,go_sem]) rfl ⟨rfl,I.out.1⟩
theorem ql8 (q:Rat) (a:Int) (m:Nat) (b:Bool) (w:World) (hb:decide (rfit q a m)=b) (hs:sz q≤600) (ha:wl a.natAbs≤1200) (hm:wl m≤1200) :
  Calls Tryz.prog 33 #[(Value.agg #[.int .u64 (lo q.num.natAbs),.string (bg q.num.natAbs),.bool (q.num<0),.int .u64 (lo (q.den - 1)),.string (bg (q.den - 1))]),(Value.agg #[.int .u64 (lo a.natAbs),.string (bg a.natAbs),.bool (a<0)]),(Value.agg #[.int .u64 (lo m),.string (bg m)])] w fun e w'=>e=.returned (.bool b)∧Below w.heap.size w w':=by
 subst hb
 by_cases h0:m=0
 ·rw [decide_eq_false (show ¬ rfit q a m from fun h=>h.1 h0)];exact xq2 q a m w (lh_ h0) hs ha hm
 ·by_cases h1:Nat.gcd q.den m=1
  ·by_cases h2:(q.num - a*((q.den:Nat):Int)) % ((m:Nat):Int)=0
   ·rw [decide_eq_true (show rfit q a m from ⟨h0,h1,h2⟩)];exact xq1 q a m _ _ w (lh_ h0) (lh_ h1) (lh_ rfl) (lh_ rfl) (lh_ h2) hs ha hm
   ·rw [decide_eq_false (show ¬ rfit q a m from fun h=>h2 h.2.2)];exact xq0 q a m _ _ _ w (lh_ h0) (lh_ h1) (lh_ rfl) (lh_ rfl) (lh_ rfl) (lh_ h2) hs ha hm
  ·rw [decide_eq_false (show ¬ rfit q a m from fun h=>h1 h.2.1)];exact xp_ q a m _ w (lh_ h0) (lh_ rfl) (lh_ h1) hs ha hm
end Go.Proofs.YtobojnodohjiaaaGreatDoor
