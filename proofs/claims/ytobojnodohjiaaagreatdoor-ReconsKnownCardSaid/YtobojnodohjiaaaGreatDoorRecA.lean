
/- recons: whole, left, far. -/
import Derived.Test.YtobojnodohjiaaaGreatDoorPL
import Derived.Test.YtobojnodohjiaaaGreatDoorIntDiv
import Derived.Test.YtobojnodohjiaaaGreatDoorHp
import Derived.Test.YtobojnodohjiaaaGreatDoorPJ
import Derived.Test.YtobojnodohjiaaaGreatDoorRecP
set_option maxRecDepth 100000
set_option maxHeartbeats 16000000
set_option linter.unusedVariables false
set_option linter.unusedSimpArgs false
namespace Go.Proofs.YtobojnodohjiaaaGreatDoor
section
open Go.RowKit
attribute [local go_sem ↓] Go.wp_at_zero Go.wp_at_succ
attribute [local go_sem ↓] qb8 qa3 qc8
theorem qv9 (n:Int) (d:Nat) (z:Rat) (w:World) (HZ:Hid (mkRat n d=z)) (hd:0<d) (hn9:wl n.natAbs≤100000000000) (hd9:wl d≤100000000000) :
  Calls Tryz.prog 102 #[(Value.agg #[.int .u64 (lo n.natAbs),.string (bg n.natAbs),.bool (n<0)]),(Value.agg #[.int .u64 (lo d),.string (bg d)])] w fun e w'=>e=.returned (.tuple #[(.agg #[.int .u64 (lo z.num.natAbs),.string (bg z.num.natAbs),.bool (z.num<0),.int .u64 (lo (z.den - 1)),.string (bg (z.den - 1))]),.int .i64 0])∧Below w.heap.size w w':=by
 go_enter Tryz.func102,Tryz.ntmps102
 have I:=lh_ (hp0 w)
 refine kS fun K O=>?_
 refine wp_region_lit ?_
 go_wp2
 refine kF_ O ((((I.out).aL (w.heap.size)).aL (w.heap.size+1)).aL (w.heap.size+1+1)) fun Wx0 J=>?_;clear O K
 clear I;have I:=J;clear J
 generalize w.heap.size+1+1=gx2 at *
 generalize w.heap.size+1=gx1 at *
 refine wp_seq ?_
 have hd1:decide (d=0)=false:=decide_eq_false ok
 have lx1:=kc1_ I
 refine ks3_ fun K O T Y=>?_
 refine tk3_ ?_
 refine nlS Y I fun vw1 J=>?_
 clear Y T I lx1
 go_wp2
 refine kO O ?_;clear O K
 have I:=J;clear J
 clear hd1
 refine wp_cond_false (by rfl) ?_
 refine wp_skip ?_
 show Code.wp _ _ _ _ _
 have HZ1:Hid (mkRat n d=z):=lh_ (HZ.out)
 have su1:sz z≤100000000000:=by have e:=HZ1.out;first|omega|(rw [← e];exact qj1 (k:=100000000000) om om (by decide))
 have lx0:=kc0_ I
 have lx1:=kc1_ I
 refine ks3_ fun K O T Y=>?_
 refine tk2_ ?_
 refine ck Tryz.call189 (fun w' hw=>qf_ n d z HZ1 ok om om _) ?_
 refine nlS Y I fun vw2 J=>?_
 clear Y T I lx0 lx1
 have lx2:=kc2_ J;have fx2:=kf2_ J
 have r0:=Gr.refl vw2
 go_wp2
 refine kO O ?_;clear O K
 clear r0 lx2 fx2
 refine fH ((((((J.out).put2 2 0 rfl).put2 2 2 rfl).put 2 4 _ rfl).er 1).er 0) fun Wx3 I=>?_
 clear J
 refine wp_ret ?_
 try simp only [Exit.then,Exit.inBlock]
 have lx2:=kc0_ I
 have r0:=Gr.refl Wx3
 exact bodyPost_ret (v:=.tuple #[(.agg #[.int .u64 (lo z.num.natAbs),.string (bg z.num.natAbs),.bool (z.num<0),.int .u64 (lo (z.den - 1)),.string (bg (z.den - 1))]),.int .i64 0]) (by simp [results,Tryz.results102,go_sem,lx2 _ r0]) rfl ⟨rfl,I.out.1⟩
theorem qh8 (q:Rat) (w:World)  :
  Calls Tryz.prog 40 #[(Value.agg #[.int .u64 (lo q.num.natAbs),.string (bg q.num.natAbs),.bool (q.num<0),.int .u64 (lo (q.den - 1)),.string (bg (q.den - 1))])] w fun e w'=>e=.returned (((Value.agg #[.int .u64 (lo q.num.natAbs),.string (bg q.num.natAbs),.bool (q.num<0)])))∧Below w.heap.size w w':=by
 go_enter Tryz.func40,Tryz.ntmps40
 have I:=lh_ (hp0 w)
 refine kS fun K O=>?_
 refine wp_region_lit ?_
 go_wp2
 refine kF_ O (((I.out).aL (w.heap.size)).aL (w.heap.size+1)) fun Wx0 J=>?_;clear O K
 clear I;have I:=J;clear J
 generalize w.heap.size+1=gx1 at *
 have lx0:=kc0_ I
 refine ks2_ fun K O T Y=>?_
 refine tk2_ ?_
 refine nlS Y I fun vw1 J=>?_
 clear Y T I lx0
 have lx1:=kc1_ J;have fx1:=kf1_ J
 have r0:=Gr.refl vw1
 go_wp2
 refine kO O ?_;clear O K
 clear r0 lx1 fx1
 refine fH ((((J.out).put2 1 0 rfl).put 1 2 _ rfl).er 0) fun Wx1 I=>?_
 clear J
 refine wp_ret ?_
 try simp only [Exit.then,Exit.inBlock]
 have lx1:=kc0_ I
 have r0:=Gr.refl Wx1
 exact bodyPost_ret (v:=.agg #[.int .u64 (lo q.num.natAbs),.string (bg q.num.natAbs),.bool (q.num<0)]) (by simp [results,Tryz.results40,go_sem,lx1 _ r0]) rfl ⟨rfl,I.out.1⟩
theorem xv_ (q:Rat) (z:Int) (w:World) (hz:q.num=z) :
  Calls Tryz.prog 40 #[(Value.agg #[.int .u64 (lo q.num.natAbs),.string (bg q.num.natAbs),.bool (q.num<0),.int .u64 (lo (q.den - 1)),.string (bg (q.den - 1))])] w fun e w'=>e=.returned (Value.agg #[.int .u64 (lo z.natAbs),.string (bg z.natAbs),.bool (z<0)])∧Below w.heap.size w w':=hz ▸ qh8 q w
theorem qf5 (q:Rat) (w:World) (hs:sz q≤100000000000) :
  Calls Tryz.prog 38 #[(Value.agg #[.int .u64 (lo q.num.natAbs),.string (bg q.num.natAbs),.bool (q.num<0),.int .u64 (lo (q.den - 1)),.string (bg (q.den - 1))])] w fun e w'=>e=.returned (((Value.agg #[.int .u64 (lo (q.den)),.string (bg (q.den))])))∧Below w.heap.size w w':=by
 go_enter Tryz.func38,Tryz.ntmps38
 have I:=lh_ (hp0 w)
 refine kS fun K O=>?_
 refine wp_region_lit ?_
 go_wp2
 refine kF_ O (((I.out).aL (w.heap.size)).aL (w.heap.size+1)) fun Wx0 J=>?_;clear O K
 clear I;have I:=J;clear J
 generalize w.heap.size+1=gx1 at *
 have su1:wl (q.den)≤100000000000:=Nat.le_trans (qb_ _) om
 have sp1:0<(q).den:=(q).den_pos
 have lx0:=kc0_ I
 refine ks2_ fun K O T Y=>?_
 refine tk ?_
 refine ck Tryz.call114 (fun w' hw=>qe1 q om _) ?_
 refine nlS Y I fun vw1 J=>?_
 clear Y T I lx0
 have lx1:=kc1_ J;have fx1:=kf1_ J
 have r0:=Gr.refl vw1
 go_wp2
 refine kO O ?_;clear O K
 clear r0 lx1 fx1
 refine fH (((J.out).put2 1 0 rfl).er 0) fun Wx1 I=>?_
 clear J
 refine wp_ret ?_
 try simp only [Exit.then,Exit.inBlock]
 have lx1:=kc0_ I
 have r0:=Gr.refl Wx1
 exact bodyPost_ret (v:=.agg #[.int .u64 (lo (q.den)),.string (bg (q.den))]) (by simp [results,Tryz.results38,go_sem,lx1 _ r0]) rfl ⟨rfl,I.out.1⟩
theorem qI_ (q:Rat):wl (Int.natAbs (q.floor))≤sz q+1:=by
 rw [Rat.floor_def]
 exact Nat.le_trans (qi0 _ _) (by have:=qc3 q;omega)
theorem qG1 (q:Rat):-((-q).floor)=q.ceil:=(Rat.ceil_eq_neg_floor_neg q).symm
theorem xI3 (q:Rat):wl (Int.natAbs (q.ceil))≤sz q+1:=by
 rw [← qG1,Int.natAbs_neg,← qA5 q]
 exact qI_ (-q)
theorem qK0 (q:Rat) (z:Int) (w:World) (HZ:Hid (q.floor=z)) (hs:sz q≤10000000000) :
  Calls Tryz.prog 142 #[(Value.agg #[.int .u64 (lo q.num.natAbs),.string (bg q.num.natAbs),.bool (q.num<0),.int .u64 (lo (q.den - 1)),.string (bg (q.den - 1))])] w fun e w'=>e=.returned (.agg #[.int .u64 (lo z.natAbs),.string (bg z.natAbs),.bool (z<0)])∧Below w.heap.size w w':=by
 have hn_q:wl q.num.natAbs≤10000000000:=Nat.le_trans (qc3 q) hs
 have hp_q:=q.den_pos
 go_enter Tryz.func142,Tryz.ntmps142
 have I:=lh_ (hp0 w)
 refine kS fun K O=>?_
 refine wp_region_lit ?_
 go_wp2
 refine kF_ O (((I.out).aL (w.heap.size)).aL (w.heap.size+1)) fun Wx0 J=>?_;clear O K
 clear I;have I:=J;clear J
 generalize w.heap.size+1=gx1 at *
 obtain ⟨u1,HZ1⟩:∃ z,Hid ((q.den:Int)=z):=⟨_,lh_ rfl⟩
 have su1:wl u1.natAbs≤10000000000:=by rw [← HZ1.out];rw [Int.natAbs_natCast];exact Nat.le_trans (qb_ _) om
 have HZ2:Hid ((q.num) / u1=z):=lh_ (by rw [← HZ.out,Rat.floor_def];simp only [← HZ1.out])
 have su2:wl z.natAbs≤10000000001:=by have e:=HZ2.out;first|omega|(rw [← e];have:=qi0 (q.num) u1;omega)
 obtain ⟨u3,HZ3⟩:∃ z,Hid ((q.num) % u1=z):=⟨_,lh_ rfl⟩
 have su3:wl u3.natAbs≤10000000000:=by rw [← HZ3.out];have:=ql2 (q.num) u1 (by simp only [← HZ1.out];omega);omega
 have lx0:=kc0_ I
 refine kS fun K O=>?_
 refine qa1 11 [9,10] [7,8] (fun i=>if i=9 then 3 else 4) (fun i=>if i=9 then .cells #[.int .u64 0,.string ⟨#[]⟩,.bool false] 34 else .cells #[.int .u64 0,.string ⟨#[]⟩,.bool false] 34) [(true,0),(true,1),(true,2),(true,3),(true,4),(true,5),(true,6),(true,7),(true,8)] (by kernel_rfl) (by kernel_rfl) (by intro i hi;simp only [List.mem_cons,List.not_mem_nil,or_false] at hi;rcases hi with rfl|rfl <;> exact ⟨_,rfl,rfl,rfl,by simp,fun ρ w=>by kernel_rfl⟩) (by intro i hi;simp only [List.mem_cons,List.not_mem_nil,or_false] at hi;rcases hi with rfl|rfl <;> exact ⟨_,rfl,qa_⟩) (fun _ _ _ _ _ h=>h) (fun T Y=>?_)
 refine tk3_ ?_
 refine ck Tryz.call213 (fun w' hw=>qe8 q u1 _ HZ1.out om) ?_
 refine ck Tryz.call42 (fun w' hw=>qx_ (q.num) u1 z u3 _ HZ2.out HZ3.out (by simp only [← HZ3.out,← HZ1.out];omega) om om) ?_
 iterate 4 refine tk ?_
 refine qa0 (Y.out _ _ ?_)
 intro G vw1 hg hf
 simp only [puts,Act.put,lA,lB,lC,lD,lE,↓reduceIte,Nat.reduceEqDiff]
 have J:=lh_ (I.out.fr hg hf (zs:=[(#[.int .u64 0,.string ⟨#[]⟩,.bool false],34),(#[.int .u64 0,.string ⟨#[]⟩,.bool false],34)]) rfl (by decide) (by decide))
 simp only [zq1_,zq2_,zq3_,zq4_,lF,lG] at J
 clear Y T I hg hf lx0
 generalize G 9=gx3 at *
 generalize G 10=gx4 at *
 have lx3:=kc2_ J;have fx3:=kf2_ J
 have lx4:=kc3_ J;have fx4:=kf3_ J
 have r0:=Gr.refl vw1
 obtain ⟨d3_4,d4_3⟩:=J.out.ne 2 3 rfl rfl (by decide)
 go_wp2
 refine kO O ?_;clear O K
 clear r0 lx3 fx3 lx4 fx4 d3_4 d4_3
 refine fH (((((((J.out).put2 2 0 rfl).put 2 2 _ rfl).put2 3 0 rfl).put 3 2 _ rfl).er 3).er 0) fun Wx1 I=>?_
 clear J
 have lx3:=kc1_ I
 refine ks1_ fun K O T Y=>?_
 refine tk ?_
 refine nlS Y I fun vw2 J=>?_
 clear Y T I lx3
 have lx1:=kc0_ J;have fx1:=kf0_ J
 have r0:=Gr.refl vw2
 go_wp2
 refine kO O ?_;clear O K
 clear r0 lx1 fx1
 refine fH ((((J.out).put2 0 0 rfl).put 0 2 _ rfl).er 1) fun Wx2 I=>?_
 clear J
 refine wp_ret ?_
 try simp only [Exit.then,Exit.inBlock]
 have lx1:=kc0_ I
 have r0:=Gr.refl Wx2
 exact bodyPost_ret (v:=.agg #[.int .u64 (lo z.natAbs),.string (bg z.natAbs),.bool (z<0)]) (by simp [results,Tryz.results142,go_sem,lx1 _ r0]) rfl ⟨rfl,I.out.1⟩
theorem xv9 (q:Rat) (z:Int) (w:World) (HZ:Hid (q.ceil=z)) (hs:sz q≤10000000000) :
  Calls Tryz.prog 148 #[(Value.agg #[.int .u64 (lo q.num.natAbs),.string (bg q.num.natAbs),.bool (q.num<0),.int .u64 (lo (q.den - 1)),.string (bg (q.den - 1))])] w fun e w'=>e=.returned (.agg #[.int .u64 (lo z.natAbs),.string (bg z.natAbs),.bool (z<0)])∧Below w.heap.size w w':=by
 go_enter Tryz.func148,Tryz.ntmps148
 have I:=lh_ (hp0 w)
 refine kS fun K O=>?_
 refine wp_region_lit ?_
 go_wp2
 refine kF_ O (((I.out).aL (w.heap.size)).aL (w.heap.size+1)) fun Wx0 J=>?_;clear O K
 clear I;have I:=J;clear J
 generalize w.heap.size+1=gx1 at *
 obtain ⟨u1,HZ1⟩:∃ z,Hid (-(q)=z):=⟨_,lh_ rfl⟩
 have su1:sz u1≤10000000000:=by rw [← HZ1.out];rw [qA5];omega
 obtain ⟨u2,HZ2⟩:∃ z,Hid (u1.floor=z):=⟨_,lh_ rfl⟩
 have su2:wl u2.natAbs≤10000000001:=by rw [← HZ2.out];have:=qI_ u1;omega
 have HZ3:Hid (-(u2)=z):=lh_ (by rw [← HZ.out,← qG1];simp only [← HZ2.out,← HZ1.out])
 have su3:wl z.natAbs≤10000000001:=by have e:=HZ3.out;first|omega|(rw [← e];rw [Int.natAbs_neg];omega)
 have lx0:=kc0_ I
 refine ks4_ fun K O T Y=>?_
 refine tk ?_
 refine ck Tryz.call45 (fun w' hw=>qv_ q u1 _ HZ1.out) ?_
 refine ck Tryz.call142 (fun w' hw=>qK0 u1 u2 _ (lh_ HZ2.out) om) ?_
 refine ck Tryz.call44 (fun w' hw=>qY9 u2 z _ HZ3.out) ?_
 refine nlS Y I fun vw1 J=>?_
 clear Y T I lx0
 have lx1:=kc1_ J;have fx1:=kf1_ J
 have r0:=Gr.refl vw1
 go_wp2
 refine kO O ?_;clear O K
 clear r0 lx1 fx1
 refine fH ((((J.out).put2 1 0 rfl).put 1 2 _ rfl).er 0) fun Wx1 I=>?_
 clear J
 refine wp_ret ?_
 try simp only [Exit.then,Exit.inBlock]
 have lx1:=kc0_ I
 have r0:=Gr.refl Wx1
 exact bodyPost_ret (v:=.agg #[.int .u64 (lo z.natAbs),.string (bg z.natAbs),.bool (z<0)]) (by simp [results,Tryz.results148,go_sem,lx1 _ r0]) rfl ⟨rfl,I.out.1⟩
end
section
open Go.RowKit
attribute [local go_sem ↓] Go.wp_at_zero Go.wp_at_succ
attribute [local go_sem ↓] qb8 qa3 qc8
end
section
open Go.RowKit
attribute [local go_sem ↓] Go.wp_at_zero Go.wp_at_succ
attribute [local go_sem ↓] qb8 qa3 qc8
end
section
open Go.RowKit
attribute [local go_sem ↓] Go.wp_at_zero Go.wp_at_succ
attribute [local go_sem ↓] qb8 qa3 qc8
attribute [local go_sem ↓] qb8 qa3 qd9 qb7
theorem qB8 {x y:Int} (h:y≤x):¬ cmpI x y<0:=by
 rcases Int.lt_or_eq_of_le h with h|h
 ·rw [qo3 h];decide
 ·rw [qr3 h.symm];decide
theorem qx8 {a:Int} {m k:Nat} (hm:0<m) (h:wl m≤k):wl (Int.natAbs (a % ((m:Nat):Int)))≤k:=by
 have h1:=Int.emod_nonneg a (show ((m:Nat):Int)≠0 by omega)
 have h2:=Int.emod_lt_of_pos a (show (0:Int)<((m:Nat):Int) by omega)
 exact Nat.le_trans (qa4 om) h
theorem qe2 (n:Nat) (w:World)  :
  Calls Tryz.prog 95 #[(Value.agg #[.int .u64 (lo n),.string (bg n)])] w fun e w'=>e=.returned (((Value.agg #[.int .u64 (lo (Int.natAbs (((n:Nat):Int)))),.string (bg (Int.natAbs (((n:Nat):Int)))),.bool (decide ((((n:Nat):Int))<0))])))∧Below w.heap.size w w':=by
 go_enter Tryz.func95,Tryz.ntmps95
 have I:=lh_ (hp0 w)
 refine kS fun K O=>?_
 refine wp_region_lit ?_
 go_wp2
 refine kF_ O (((I.out).aL (w.heap.size)).aL (w.heap.size+1)) fun Wx0 J=>?_;clear O K
 clear I;have I:=J;clear J
 generalize w.heap.size+1=gx1 at *
 have HZ1:Hid ((if false then -((n:Nat):Int) else ((n:Nat):Int))=((n:Nat):Int)):=lh_ (by rfl)
 have lx0:=kc0_ I
 refine ks2_ fun K O T Y=>?_
 refine tk ?_
 refine ck Tryz.call37 (fun w' hw=>qb2 false n (((n:Nat):Int)) _ HZ1.out) ?_
 refine nlS Y I fun vw1 J=>?_
 clear Y T I lx0
 have lx1:=kc1_ J;have fx1:=kf1_ J
 have r0:=Gr.refl vw1
 go_wp2
 refine kO O ?_;clear O K
 clear r0 lx1 fx1
 refine fH ((((J.out).put2 1 0 rfl).put 1 2 _ rfl).er 0) fun Wx1 I=>?_
 clear J
 refine wp_ret ?_
 try simp only [Exit.then,Exit.inBlock]
 have lx1:=kc0_ I
 have r0:=Gr.refl Wx1
 exact bodyPost_ret (v:=.agg #[.int .u64 (lo (Int.natAbs (((n:Nat):Int)))),.string (bg (Int.natAbs (((n:Nat):Int)))),.bool (decide ((((n:Nat):Int))<0))]) (by simp [results,Tryz.results95,go_sem,lx1 _ r0]) rfl ⟨rfl,I.out.1⟩
theorem qn9 (a z:Int) (m:Nat) (w:World) (HZ:Hid (a % ((m:Nat):Int)=z)) (hm0:0<m) (hwa:wl a.natAbs≤5000) (hwm:wl m≤1200) :
  Calls Tryz.prog 96 #[(Value.agg #[.int .u64 (lo a.natAbs),.string (bg a.natAbs),.bool (a<0)]),(Value.agg #[.int .u64 (lo m),.string (bg m)])] w fun e w'=>e=.returned (((Value.agg #[.int .u64 (lo z.natAbs),.string (bg z.natAbs),.bool (z<0)])))∧Below w.heap.size w w':=by
 go_enter Tryz.func96,Tryz.ntmps96
 have I:=lh_ (hp0 w)
 refine kS fun K O=>?_
 refine wp_region_lit ?_
 go_wp2
 refine kF_ O ((((I.out).aL (w.heap.size)).aL (w.heap.size+1)).aL (w.heap.size+1+1)) fun Wx0 J=>?_;clear O K
 clear I;have I:=J;clear J
 generalize w.heap.size+1+1=gx2 at *
 generalize w.heap.size+1=gx1 at *
 have su1:wl (Int.natAbs ((m:Nat):Int))≤1200:=by rw [Int.natAbs_natCast];omega
 obtain ⟨u2,HZ2⟩:∃ z,Hid (a / (((m:Nat):Int))=z):=⟨_,lh_ rfl⟩
 have su2:wl u2.natAbs≤5001:=by rw [← HZ2.out];have:=qi0 a (((m:Nat):Int));omega
 have HZ3:Hid (a % (((m:Nat):Int))=z):=lh_ (HZ.out)
 have su3:wl z.natAbs≤5000:=by have e:=HZ3.out;first|omega|(rw [← e];have:=ql2 a (((m:Nat):Int)) om;omega)
 have lx0:=kc0_ I
 have lx1:=kc1_ I
 refine kS fun K O=>?_
 refine qa1 10 [8,9] [6,7] (fun i=>if i=8 then 5 else 6) (fun i=>if i=8 then .cells #[.int .u64 0,.string ⟨#[]⟩,.bool false] 34 else .cells #[.int .u64 0,.string ⟨#[]⟩,.bool false] 34) [(true,0),(true,1),(true,2),(true,3),(true,4),(true,5),(true,6),(true,7)] (by kernel_rfl) (by kernel_rfl) (by intro i hi;simp only [List.mem_cons,List.not_mem_nil,or_false] at hi;rcases hi with rfl|rfl <;> exact ⟨_,rfl,rfl,rfl,by simp,fun ρ w=>by kernel_rfl⟩) (by intro i hi;simp only [List.mem_cons,List.not_mem_nil,or_false] at hi;rcases hi with rfl|rfl <;> exact ⟨_,rfl,qa_⟩) (fun _ _ _ _ _ h=>h) (fun T Y=>?_)
 refine tk2_ ?_
 refine ck Tryz.call95 (fun w' hw=>qe2 m _) ?_
 refine ck Tryz.call42 (fun w' hw=>qx_ a (((m:Nat):Int)) u2 z _ HZ2.out HZ3.out om om om) ?_
 iterate 4 refine tk ?_
 refine qa0 (Y.out _ _ ?_)
 intro G vw1 hg hf
 simp only [puts,Act.put,lA,lB,lC,lD,lE,↓reduceIte,Nat.reduceEqDiff]
 have J:=lh_ (I.out.fr hg hf (zs:=[(#[.int .u64 0,.string ⟨#[]⟩,.bool false],34),(#[.int .u64 0,.string ⟨#[]⟩,.bool false],34)]) rfl (by decide) (by decide))
 simp only [zq1_,zq2_,zq3_,zq4_,lF,lG] at J
 clear Y T I hg hf lx0 lx1
 generalize G 8=gx4 at *
 generalize G 9=gx5 at *
 have lx4:=kc3_ J;have fx4:=kf3_ J
 have lx5:=kc4_ J;have fx5:=kf4_ J
 have r0:=Gr.refl vw1
 obtain ⟨d4_5,d5_4⟩:=J.out.ne 3 4 rfl rfl (by decide)
 go_wp2
 refine kO O ?_;clear O K
 clear r0 lx4 fx4 lx5 fx5 d4_5 d5_4
 refine fH ((((((((J.out).put2 3 0 rfl).put 3 2 _ rfl).put2 4 0 rfl).put 4 2 _ rfl).er 3).er 1).er 0) fun Wx1 I=>?_
 clear J
 have lx5:=kc1_ I
 refine ks1_ fun K O T Y=>?_
 refine tk ?_
 refine nlS Y I fun vw2 J=>?_
 clear Y T I lx5
 have lx2:=kc0_ J;have fx2:=kf0_ J
 have r0:=Gr.refl vw2
 go_wp2
 refine kO O ?_;clear O K
 clear r0 lx2 fx2
 refine fH ((((J.out).put2 0 0 rfl).put 0 2 _ rfl).er 1) fun Wx2 I=>?_
 clear J
 refine wp_ret ?_
 try simp only [Exit.then,Exit.inBlock]
 have lx2:=kc0_ I
 have r0:=Gr.refl Wx2
 exact bodyPost_ret (v:=.agg #[.int .u64 (lo z.natAbs),.string (bg z.natAbs),.bool (z<0)]) (by simp [results,Tryz.results96,go_sem,lx2 _ r0]) rfl ⟨rfl,I.out.1⟩
theorem xA1 (n m x y:Nat) (w:World) (HX:Hid (n*n=x)) (HY:Hid (2*x=y)) (HL:Hid (y<m)) (hwn:wl n≤600) (hwm:wl m≤1200) :
  Calls Tryz.prog 99 #[(Value.agg #[.int .u64 (lo n),.string (bg n)]),(Value.agg #[.int .u64 (lo m),.string (bg m)])] w fun e w'=>e=.returned ((.bool true))∧Below w.heap.size w w':=by
 go_enter Tryz.func99,Tryz.ntmps99
 have I:=lh_ (hp0 w)
 refine kS fun K O=>?_
 refine wp_region_lit ?_
 go_wp2
 refine kF_ O (((I.out).aL (w.heap.size)).aL (w.heap.size+1)) fun Wx0 J=>?_;clear O K
 clear I;have I:=J;clear J
 generalize w.heap.size+1=gx1 at *
 have su_0_1:wl 2≤1:=qb1.2 (by decide +kernel)
 have HZ1:Hid (n*(n)=x):=lh_ (HX.out)
 have su1:wl x≤1200:=by have e:=HZ1.out;first|omega|(rw [← e];have:=qf1 n n;omega)
 have HZ2:Hid ((2)*(x)=y):=lh_ (HY.out)
 have su2:wl y≤1201:=by have e:=HZ2.out;first|omega|(rw [← e];have:=qf1 (2) x;omega)
 have lx0:=kc0_ I
 have lx1:=kc1_ I
 refine kS fun K O=>?_
 refine xy3 fun T Y=>?_
 refine tk3_ ?_
 refine ck Tryz.call24 (fun w' hw=>nzof 2 _ (by decide)) ?_
 refine ck Tryz.call110 (fun w' hw=>qL7 n n x _ HZ1.out om om) ?_
 refine ck Tryz.call110 (fun w' hw=>qL7 (2) x y _ HZ2.out om om) ?_
 refine ck Tryz.call119 (fun w' hw=>xx7 y m (-1) _ (qj9 (by have e:(y)<(m):=(by first|exact ok|exact HL.out);first|exact e|omega)) om om) ?_
 refine tk ?_
 refine nlD Y I fun vw1 J=>?_
 clear Y T I lx0 lx1
 go_wp2
 refine kF_ O (((J.out).er 1).er 0) fun Wx1 I=>?_;clear O K
 clear J
 refine wp_ret ?_
 try simp only [Exit.then,Exit.inBlock]
 exact bodyPost_ret (v:=.bool true) (by simp [results,Tryz.results99,go_sem]) rfl ⟨rfl,I.out.1⟩
theorem xA0 (n m x y:Nat) (w:World) (HX:Hid (n*n=x)) (HY:Hid (2*x=y)) (HL:Hid (¬ y<m)) (hwn:wl n≤600) (hwm:wl m≤1200) :
  Calls Tryz.prog 99 #[(Value.agg #[.int .u64 (lo n),.string (bg n)]),(Value.agg #[.int .u64 (lo m),.string (bg m)])] w fun e w'=>e=.returned ((.bool false))∧Below w.heap.size w w':=by
 go_enter Tryz.func99,Tryz.ntmps99
 have I:=lh_ (hp0 w)
 refine kS fun K O=>?_
 refine wp_region_lit ?_
 go_wp2
 refine kF_ O (((I.out).aL (w.heap.size)).aL (w.heap.size+1)) fun Wx0 J=>?_;clear O K
 clear I;have I:=J;clear J
 generalize w.heap.size+1=gx1 at *
 have su_0_1:wl 2≤1:=qb1.2 (by decide +kernel)
 have HZ1:Hid (n*(n)=x):=lh_ (HX.out)
 have su1:wl x≤1200:=by have e:=HZ1.out;first|omega|(rw [← e];have:=qf1 n n;omega)
 have HZ2:Hid ((2)*(x)=y):=lh_ (HY.out)
 have su2:wl y≤1201:=by have e:=HZ2.out;first|omega|(rw [← e];have:=qf1 (2) x;omega)
 obtain ⟨c3,HC3⟩:∃ c,Hid (cmpI (y:Nat) (m:Nat)=c):=⟨_,lh_ rfl⟩
 have hc3:¬ c3<0:=by rw [← HC3.out];exact qB8 (by have e:(m)≤(y):=(by have e9:=HL.out;omega);omega)
 have hd1:¬ (c3<0):=by first|exact ok|exact HL.out
 have lx0:=kc0_ I
 have lx1:=kc1_ I
 refine kS fun K O=>?_
 refine xy3 fun T Y=>?_
 refine tk3_ ?_
 refine ck Tryz.call24 (fun w' hw=>nzof 2 _ (by decide)) ?_
 refine ck Tryz.call110 (fun w' hw=>qL7 n n x _ HZ1.out om om) ?_
 refine ck Tryz.call110 (fun w' hw=>qL7 (2) x y _ HZ2.out om om) ?_
 refine ck Tryz.call119 (fun w' hw=>xx7 y m c3 _ (HC3.out) om om) ?_
 refine tk ?_
 refine nlD Y I fun vw1 J=>?_
 clear Y T I lx0 lx1
 go_wp2
 refine kF_ O (((J.out).er 1).er 0) fun Wx1 I=>?_;clear O K
 clear J
 clear hc3 hd1
 refine wp_ret ?_
 try simp only [Exit.then,Exit.inBlock]
 exact bodyPost_ret (v:=.bool false) (by simp [results,Tryz.results99,go_sem]) rfl ⟨rfl,I.out.1⟩
theorem qz_ (n m:Nat) (b:Bool) (w:World) (hb:decide (2*(n*n)<m)=b) (hn:wl n≤600) (hm:wl m≤1200) :
  Calls Tryz.prog 99 #[(Value.agg #[.int .u64 (lo n),.string (bg n)]),(Value.agg #[.int .u64 (lo m),.string (bg m)])] w fun e w'=>e=.returned (.bool b)∧Below w.heap.size w w':=by
 subst hb
 by_cases h:2*(n*n)<m
 ·rw [decide_eq_true h];exact xA1 n m _ _ w (lh_ rfl) (lh_ rfl) (lh_ h) hn hm
 ·rw [decide_eq_false h];exact xA0 n m _ _ w (lh_ rfl) (lh_ rfl) (lh_ h) hn hm
end
end Go.Proofs.YtobojnodohjiaaaGreatDoor
