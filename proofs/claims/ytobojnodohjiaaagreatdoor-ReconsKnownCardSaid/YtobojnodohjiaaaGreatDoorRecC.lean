
/- recons.Back. -/
import Derived.Test.YtobojnodohjiaaaGreatDoorRecB
set_option maxRecDepth 100000
set_option maxHeartbeats 16000000
set_option linter.unusedVariables false
set_option linter.unusedSimpArgs false
namespace Go.Proofs.YtobojnodohjiaaaGreatDoor
open Go.RowKit
attribute [local go_sem ↓] Go.wp_at_zero Go.wp_at_succ
attribute [local go_sem ↓] qb8 qa3 qc8
attribute [local go_sem ↓] qb8 qa3 qd9 qb7
theorem xh8 {a x y u v s:Int} {m k:Nat} (h:bki a ((m:Nat):Int) x y u v s) (hk:wl m≤k):wl x.natAbs≤k∧wl y.natAbs≤k∧wl u.natAbs≤k∧wl v.natAbs≤k:=by
 obtain ⟨hs,h0,y0,yx,xm,dy,dx,hv,hu,hx,ub,vb⟩:=h
 refine ⟨Nat.le_trans (qa4 ?_) hk,Nat.le_trans (qa4 ?_) hk,Nat.le_trans (qa4 ?_) hk,Nat.le_trans (qa4 ?_) hk⟩ <;> omega
theorem xu5 {y:Int} {m:Nat} (h:¬ 2*(y.natAbs*y.natAbs)<m):((m:Nat):Int)≤2*(y*y):=by
 have e:((y.natAbs*y.natAbs:Nat):Int)=y*y:=by
  rw [Int.natCast_mul]
  rcases Int.natAbs_eq y with e|e
  ·rw [← e]
  ·have e2:(y.natAbs:Int) = -y:=by omega
   rw [e2,Int.neg_mul_neg]
 omega
theorem xl3 {a m x y u v s:Int} (h:bki a m x y u v s):y.natAbs<x.natAbs∧0≤y:=by
 obtain ⟨hs,h0,y0,yx,xm,dy,dx,hv,hu,hx,ub,vb⟩:=h
 omega
theorem qz8 (q a b p z:Int) (w:World) (HP:Hid (q*b=p)) (HZ:Hid (a - p=z)) (hwq:wl q.natAbs≤1300) (hwa:wl a.natAbs≤1300) (hwb:wl b.natAbs≤1300) :
  Calls Tryz.prog 97 #[(Value.agg #[.int .u64 (lo q.natAbs),.string (bg q.natAbs),.bool (q<0)]),(Value.agg #[.int .u64 (lo a.natAbs),.string (bg a.natAbs),.bool (a<0)]),(Value.agg #[.int .u64 (lo b.natAbs),.string (bg b.natAbs),.bool (b<0)])] w fun e w'=>e=.returned ((.tuple #[(Value.agg #[.int .u64 (lo b.natAbs),.string (bg b.natAbs),.bool (b<0)]),(Value.agg #[.int .u64 (lo z.natAbs),.string (bg z.natAbs),.bool (z<0)])]))∧Below w.heap.size w w':=by
 go_enter Tryz.func97,Tryz.ntmps97
 have I:=lh_ (hp0 w)
 refine kS fun K O=>?_
 refine wp_region_lit ?_
 go_wp2
 refine kF_ O ((((((I.out).aL (w.heap.size)).aL (w.heap.size+1)).aL (w.heap.size+1+1)).aL (w.heap.size+1+1+1)).aL (w.heap.size+1+1+1+1)) fun Wx0 J=>?_;clear O K
 clear I;have I:=J;clear J
 generalize w.heap.size+1+1+1+1=gx4 at *
 generalize w.heap.size+1+1+1=gx3 at *
 generalize w.heap.size+1+1=gx2 at *
 generalize w.heap.size+1=gx1 at *
 have HZ1:Hid (q*(b)=p):=lh_ (HP.out)
 have su1:wl p.natAbs≤2600:=by have e:=HZ1.out;first|omega|(rw [← e];have:=qd7 q b;omega)
 have HZ2:Hid (a - p=z):=lh_ (HZ.out)
 have su2:wl z.natAbs≤2601:=by have e:=HZ2.out;first|omega|(rw [← e];have:=qj4 a p;omega)
 have lx0:=kc0_ I
 have lx1:=kc1_ I
 have lx2:=kc2_ I
 refine kS fun K O=>?_
 refine pd4_ fun T Y=>?_
 iterate 4 refine tk ?_
 refine ck Tryz.call39 (fun w' hw=>ql_ q b p _ HZ1.out om om) ?_
 refine ck Tryz.call98 (fun w' hw=>qB1 a p z _ HZ2.out om om) ?_
 refine nlD Y I fun vw1 J=>?_
 clear Y T I lx0 lx1 lx2
 have lx3:=kc3_ J;have fx3:=kf3_ J
 have lx4:=kc4_ J;have fx4:=kf4_ J
 have r0:=Gr.refl vw1
 obtain ⟨d3_4,d4_3⟩:=J.out.ne 3 4 rfl rfl (by decide)
 go_wp2
 refine kO O ?_;clear O K
 clear r0 lx3 fx3 lx4 fx4 d3_4 d4_3
 refine fH ((((((((J.out).put2 3 0 rfl).put 3 2 _ rfl).put2 4 0 rfl).put 4 2 _ rfl).er 2).er 1).er 0) fun Wx1 I=>?_
 clear J
 refine wp_ret ?_
 try simp only [Exit.then,Exit.inBlock]
 have lx3:=kc0_ I
 have lx4:=kc1_ I
 have r0:=Gr.refl Wx1
 exact bodyPost_ret (v:=.tuple #[(.agg #[.int .u64 (lo b.natAbs),.string (bg b.natAbs),.bool (b<0)]),(.agg #[.int .u64 (lo z.natAbs),.string (bg z.natAbs),.bool (z<0)])]) (by simp [results,Tryz.results97,go_sem,lx3 _ r0,lx4 _ r0]) rfl ⟨rfl,I.out.1⟩
theorem xq4 (a:Int) (m:Nat) (w:World) (HM0:Hid (m=0)) :
  Calls Tryz.prog 22 #[(Value.agg #[.int .u64 (lo a.natAbs),.string (bg a.natAbs),.bool (a<0)]),(Value.agg #[.int .u64 (lo m),.string (bg m)])] w fun e w'=>e=.returned ((.tuple #[(.agg #[.int .u64 0,.string ⟨#[]⟩,.bool false,.int .u64 0,.string ⟨#[]⟩]),.bool false]))∧Below w.heap.size w w':=by
 go_enter Tryz.func22,Tryz.ntmps22
 have I:=lh_ (hp0 w)
 refine kS fun K O=>?_
 refine wp_region_lit ?_
 go_wp2
 refine kF_ O ((((I.out).aL (w.heap.size)).aL (w.heap.size+1)).aL (w.heap.size+1+1)) fun Wx0 J=>?_;clear O K
 clear I;have I:=J;clear J
 generalize w.heap.size+1+1=gx2 at *
 generalize w.heap.size+1=gx1 at *
 refine wp_scope_straight ?_
 refine wp_seq ?_
 have hd1:decide (m=0)=true:=decide_eq_true (by first|exact ok|exact HM0.out)
 have lx1:=kc1_ I
 refine ks3_ fun K O T Y=>?_
 refine tk3_ ?_
 refine nlS Y I fun vw1 J=>?_
 clear Y T I lx1
 go_wp2
 refine kO O ?_;clear O K
 have I:=J;clear J
 clear hd1
 refine wp_cond_true (by rfl) ?_
 refine ks1_ fun K O T Y=>?_
 refine tk ?_
 refine nlS Y I fun vw2 J=>?_
 clear Y T I
 have lx2:=kc2_ J;have fx2:=kf2_ J
 have r0:=Gr.refl vw2
 go_wp2
 refine kO O ?_;clear O K
 clear r0 lx2 fx2
 refine fH ((((J.out).put2 2 0 rfl).put2 2 2 rfl).put 2 4 _ rfl) fun Wx2 I=>?_
 clear J
 refine wp_ret ?_
 try simp only [Exit.then,Exit.inBlock,Exit.noGoto]
 have lx2:=kc2_ I
 have r0:=Gr.refl Wx2
 exact bodyPost_ret (v:=.tuple #[(.agg #[.int .u64 0,.string ⟨#[]⟩,.bool false,.int .u64 0,.string ⟨#[]⟩]),.bool false]) (by simp [results,Tryz.results22,go_sem,lx2 _ r0]) rfl ⟨rfl,I.out.1⟩
theorem xq5 (a y0:Int) (m:Nat) (z:Rat) (b:Bool) (w:World) (HBK:Hid (bk a m z b)) (HY0:Hid (a % ((m:Nat):Int)=y0)) (HI0:Hid (bki a ((m:Nat):Int) ((m:Nat):Int) y0 0 1 1)) (hm0:0<m) (hwa:wl a.natAbs≤300) (hwm:wl m≤300) :
  Calls Tryz.prog 22 #[(Value.agg #[.int .u64 (lo a.natAbs),.string (bg a.natAbs),.bool (a<0)]),(Value.agg #[.int .u64 (lo m),.string (bg m)])] w fun e w'=>e=.returned ((.tuple #[(Value.agg #[.int .u64 (lo z.num.natAbs),.string (bg z.num.natAbs),.bool (z.num<0),.int .u64 (lo (z.den - 1)),.string (bg (z.den - 1))]),.bool b]))∧Below w.heap.size w w':=by
 go_enter Tryz.func22,Tryz.ntmps22
 have I:=lh_ (hp0 w)
 refine kS fun K O=>?_
 refine wp_region_lit ?_
 go_wp2
 refine kF_ O ((((I.out).aL (w.heap.size)).aL (w.heap.size+1)).aL (w.heap.size+1+1)) fun Wx0 J=>?_;clear O K
 clear I;have I:=J;clear J
 generalize w.heap.size+1+1=gx2 at *
 generalize w.heap.size+1=gx1 at *
 refine wp_scope_straight ?_
 refine wp_seq ?_
 have hd1:decide (m=0)=false:=decide_eq_false ok
 have lx1:=kc1_ I
 refine ks3_ fun K O T Y=>?_
 refine tk3_ ?_
 refine nlS Y I fun vw1 J=>?_
 clear Y T I lx1
 go_wp2
 refine kO O ?_;clear O K
 have I:=J;clear J
 clear hd1
 refine wp_cond_false (by rfl) ?_
 refine wp_skip ?_
 show Code.wp _ _ _ _ _
 have su1:wl (Int.natAbs ((m:Nat):Int))≤300:=by rw [Int.natAbs_natCast];omega
 have HZ2:Hid (a % ((m:Nat):Int)=y0):=lh_ (HY0.out)
 have su2:wl y0.natAbs≤300:=by have e:=HZ2.out;first|omega|(rw [← e];exact qx8 ok om)
 have lx0:=kc0_ I
 have lx1:=kc1_ I
 refine kS fun K O=>?_
 refine qa1 7 [5,6] [] (fun i=>if i=5 then 6 else 7) (fun i=>if i=5 then .cells #[.int .u64 0,.string ⟨#[]⟩,.bool false] 34 else .cells #[.int .u64 0,.string ⟨#[]⟩,.bool false] 34) [(true,0),(true,2),(true,3),(true,1),(true,4)] (by kernel_rfl) (by kernel_rfl) (by intro i hi;simp only [List.mem_cons,List.not_mem_nil,or_false] at hi;rcases hi with rfl|rfl <;> exact ⟨_,rfl,rfl,rfl,by simp,fun ρ w=>by kernel_rfl⟩) (fun i hi=>by cases hi) (fun _ _ _ _ _ h=>h) (fun T Y=>?_)
 refine tk3_ ?_
 refine ck Tryz.call95 (fun w' hw=>qe2 m _) ?_
 refine ck Tryz.call96 (fun w' hw=>qn9 a y0 m _ (lh_ HZ2.out) ok om om) ?_
 refine qa0 (Y.out _ _ ?_)
 intro G vw2 hg hf
 simp only [puts,Act.put,lA,lB,lC,lD,lE,↓reduceIte,Nat.reduceEqDiff]
 have J:=lh_ (I.out.fr hg hf (zs:=[(#[.int .u64 0,.string ⟨#[]⟩,.bool false],34),(#[.int .u64 0,.string ⟨#[]⟩,.bool false],34)]) rfl (by decide) (by decide))
 simp only [zq1_,zq2_,zq3_,zq4_,lF,lG] at J
 clear Y T I hg hf lx0 lx1
 generalize G 5=gx4 at *
 generalize G 6=gx5 at *
 have lx4:=kc3_ J;have fx4:=kf3_ J
 have lx5:=kc4_ J;have fx5:=kf4_ J
 have r0:=Gr.refl vw2
 obtain ⟨d4_5,d5_4⟩:=J.out.ne 3 4 rfl rfl (by decide)
 go_wp2
 refine kO O ?_;clear O K
 clear r0 lx4 fx4 lx5 fx5 d4_5 d5_4
 refine fH (((((J.out).put2 3 0 rfl).put 3 2 _ rfl).put2 4 0 rfl).put 4 2 _ rfl) fun Wx3 I=>?_
 clear J
 have su3:wl (Int.natAbs (0))≤1:=qb1.2 (by decide +kernel)
 have su4:wl (Int.natAbs (1))≤1:=qb1.2 (by decide +kernel)
 refine ks2_ fun K O T Y=>?_
 refine ck Tryz.call23 (fun w' hw=>qd3 (0) _ (by decide) (by decide)) ?_
 refine ck Tryz.call23 (fun w' hw=>qd3 (1) _ (by decide) (by decide)) ?_
 refine nlS Y I fun vw3 J=>?_
 clear Y T I
 go_wp2
 refine kF_ O (((J.out).aL (vw3.heap.size)).aL (vw3.heap.size+1)) fun Wx4 I=>?_;clear O K
 clear J
 generalize vw3.heap.size+1=gx7 at *
 generalize vw3.heap.size=gx6 at *
 refine kS fun K O=>?_
 refine wp_region_lit ?_
 go_wp2
 refine kF_ O (I.out) fun Wx5 J=>?_;clear O K
 clear I;have I:=J;clear J
 refine wp_seq (wp_label ?_)
 show Code.wp _ _ _ _ _
 refine wp_seq ?_
 refine wp_block ?_
 go_loopg [] (Int.natAbs y0) (fun k wr=>∃ x y u v s:Int,Hid (bki a ((m:Nat):Int) x y u v s)∧y.natAbs≤k∧Hid (HP w wr [Sum.inl (w.heap.size,34,#[.int .u64 (lo a.natAbs),.string (bg a.natAbs),.bool (a<0)]),Sum.inl (gx1,30,#[.int .u64 (lo m),.string (bg m)]),Sum.inl (gx2,36,#[.int .u64 0,.string ⟨#[]⟩,.bool false,.int .u64 0,.string ⟨#[]⟩]),Sum.inl (gx4,34,#[.int .u64 (lo x.natAbs),.string (bg x.natAbs),.bool (x<0)]),Sum.inl (gx5,34,#[.int .u64 (lo y.natAbs),.string (bg y.natAbs),.bool (y<0)]),Sum.inl (gx6,34,#[.int .u64 (lo u.natAbs),.string (bg u.natAbs),.bool (u<0)]),Sum.inl (gx7,34,#[.int .u64 (lo v.natAbs),.string (bg v.natAbs),.bool (v<0)])]))
 case atStart=>exact ⟨_,_,_,_,1,HI0,Nat.le_refl _,I⟩
 case round =>
  rename_i J_ K_ h1_ h0_
  clear I
  obtain ⟨x,y,u,v,s,HI,hyk,I⟩:=hrel
  obtain ⟨hwx,hwy,hwu,hwv⟩:=xh8 HI.out hwm
  by_cases hf:2*(y.natAbs*y.natAbs)<m
  ·have HFR:=lh_ hf
   clear hf
   rcases (show v<0∨0<v from by have:=xu6 HI.out;omega) with hv|hv
   ·have HSG:=lh_ hv
    obtain ⟨y',HY'⟩:∃ z,Hid (-y=z):=⟨_,lh_ rfl⟩
    obtain ⟨v',HV'⟩:∃ z,Hid (-v=z):=⟨_,lh_ rfl⟩
    obtain ⟨f,HFQ⟩:∃ z,Hid (mkRat y' (Int.natAbs v')=z):=⟨_,lh_ rfl⟩
    have HD0:Hid (0<Int.natAbs v'):=lh_ (by rw [← HV'.out];omega)
    have HGO:Hid (∀ g,rfar g m→rfit g a m→f=g):=lh_ (fun g h1 h2=>by rw [← HFQ.out,← HY'.out,← HV'.out];exact (qP1 HI.out HFR.out h1 h2).2 HSG.out)
    clear hv
    refine wp_seq ?_
    have lx1:=kc1_ I
    have lx5:=kc4_ I
    refine kS fun K O=>?_
    refine xe8 fun T Y=>?_
    refine tk2_ ?_
    refine ck Tryz.call100 (fun w' hw=>qf2 y _) ?_
    refine ck Tryz.call99 (fun w' hw=>qz_ y.natAbs m true _ (decide_eq_true (HFR.out)) om om) ?_
    refine nlD Y I fun vw4 J=>?_
    clear Y T I lx1 lx5
    go_wp2
    refine kO O ?_;clear O K
    have I:=J;clear J
    refine wp_cond_false (by rfl) ?_
    refine wp_exit ?_
    show Code.wp _ _ _ _ _
    refine wp_seq ?_
    have lx7:=kc6_ I
    refine ks3_ fun K O T Y=>?_
    refine tk ?_
    refine ck Tryz.call101 (fun w' hw=>qv0 v (-1) _ (by have e9:(v)<(0:Int):=(by exact HSG.out);exact xj9 e9)) ?_
    refine tk ?_
    refine nlS Y I fun vw5 J=>?_
    clear Y T I lx7
    go_wp2
    refine kF_ O (((J.out).er 5).er 3) fun Wx11 I=>?_;clear O K
    clear J
    refine wp_cond_true (by rfl) ?_
    have HZ5:Hid (-(y)=y'):=lh_ (HY'.out)
    have su5:wl y'.natAbs≤300:=by have e:=HZ5.out;first|omega|(rw [← e];rw [Int.natAbs_neg];omega)
    have HZ6:Hid (-(v)=v'):=lh_ (HV'.out)
    have su6:wl v'.natAbs≤300:=by have e:=HZ6.out;first|omega|(rw [← e];rw [Int.natAbs_neg];omega)
    have lx5:=kc3_ I
    have lx7:=kc4_ I
    refine kL fun K O=>?_
    refine xe8 fun T Y=>?_
    refine tk2_ ?_
    refine ck Tryz.call44 (fun w' hw=>qY9 y y' _ HZ5.out) ?_
    refine ck Tryz.call44 (fun w' hw=>qY9 v v' _ HZ6.out) ?_
    refine nlD Y I fun vw6 J=>?_
    clear Y T I lx5 lx7
    have lx5:=kc3_ J;have fx5:=kf3_ J
    have lx7:=kc4_ J;have fx7:=kf4_ J
    have r0:=Gr.refl vw6
    obtain ⟨d5_7,d7_5⟩:=J.out.ne 3 4 rfl rfl (by decide)
    go_wp2
    refine kO O ?_;clear O K
    clear r0 lx5 fx5 lx7 fx7 d5_7 d7_5
    refine fH (((((J.out).put2 3 0 rfl).put 3 2 _ rfl).put2 4 0 rfl).put 4 2 _ rfl) fun Wx12 I=>?_
    clear J
    have HZ7:Hid (mkRat y' v'.natAbs=f):=lh_ (HFQ.out)
    have su7:sz f≤300:=by have e:=HZ7.out;first|omega|(rw [← e];exact qj1 (k:=300) om om (by decide))
    have lx5:=kc3_ I
    have lx7:=kc4_ I
    refine kS fun K O=>?_
    refine qa1 8 [7] [6] (fun _=>14) (fun _=>.cells #[.int .u64 0,.string ⟨#[]⟩,.bool false,.int .u64 0,.string ⟨#[]⟩] 36) [(true,0),(true,1),(true,2),(true,3),(true,4),(true,5),(true,6)] (by kernel_rfl) (by kernel_rfl) (by intro i hi;simp only [List.mem_cons,List.not_mem_nil,or_false] at hi;rcases hi with rfl <;> exact ⟨_,rfl,rfl,rfl,by simp,fun ρ w=>by kernel_rfl⟩) (by intro i hi;simp only [List.mem_cons,List.not_mem_nil,or_false] at hi;rcases hi with rfl <;> exact ⟨_,rfl,qa_⟩) (fun _ _ _ _ _ h=>h) (fun T Y=>?_)
    refine tk2_ ?_
    refine ck Tryz.call100 (fun w' hw=>qf2 v' _) ?_
    refine ck Tryz.call102 (fun w' hw=>qv9 y' v'.natAbs f _ (lh_ HZ7.out) (by exact HD0.out) om om) ?_
    refine tk3_ ?_
    refine qa0 (Y.out _ _ ?_)
    intro G vw7 hg hf
    simp only [puts,Act.put,lA,lB,lC,lD,lE,↓reduceIte,Nat.reduceEqDiff]
    have J:=lh_ (I.out.fr hg hf (zs:=[(#[.int .u64 0,.string ⟨#[]⟩,.bool false,.int .u64 0,.string ⟨#[]⟩],36)]) rfl (by decide) (by decide))
    simp only [zq1_,zq2_,zq3_,zq4_,lF,lG] at J
    clear Y T I hg hf lx5 lx7
    generalize G 7=gx8 at *
    have lx8:=kc5_ J;have fx8:=kf5_ J
    have r0:=Gr.refl vw7
    go_wp2
    refine kO O ?_;clear O K
    clear r0 lx8 fx8
    refine fH ((((((J.out).put2 5 0 rfl).put2 5 2 rfl).put 5 4 _ rfl).er 4).er 3) fun Wx13 I=>?_
    clear J
    refine wp_seq ?_
    by_cases hfar:rfar f m
    ·have HFA:=lh_ hfar
     by_cases hfit:rfit f a m
     ·obtain ⟨rfl,rfl⟩:f=z∧true=b:=by have e9:=qy1 HBK.out hfar hfit;exact ⟨e9.1.symm,e9.2.symm⟩
      have HFI:=lh_ hfit
      clear hfar hfit
      have lx0:=kc0_ I
      have lx1:=kc1_ I
      have lx8:=kc3_ I
      refine qL1 fun K O T Y=>?_
      iterate 5 refine tk ?_
      refine ck Tryz.call34 (fun w' hw=>rFar f m true _ (decide_eq_true (HFA.out)) om om) ?_
      iterate 6 refine tk ?_
      refine ck Tryz.call33 (fun w' hw=>ql8 f a m true _ (decide_eq_true (HFI.out)) om om om) ?_
      refine tk2_ ?_
      refine nlS Y I fun vw8 J=>?_
      clear Y T I lx0 lx1 lx8
      go_wp2
      refine kF_ O (((J.out).er 1).er 0) fun Wx14 I=>?_;clear O K
      clear J
      refine wp_cond_false (by rfl) ?_
      refine wp_skip ?_
      show Code.wp _ _ _ _ _
      have lx8:=kc1_ I
      refine ks1_ fun K O T Y=>?_
      refine tk ?_
      refine nlS Y I fun vw9 J=>?_
      clear Y T I lx8
      have lx2:=kc0_ J;have fx2:=kf0_ J
      have r0:=Gr.refl vw9
      go_wp2
      refine kO O ?_;clear O K
      clear r0 lx2 fx2
      refine fH (((((J.out).put2 0 0 rfl).put2 0 2 rfl).put 0 4 _ rfl).er 1) fun Wx16 I=>?_
      clear J
      refine wp_ret ?_
      try simp only [Exit.then,Exit.inBlock,Exit.noGoto]
      have lx2:=kc0_ I
      have r0:=Gr.refl Wx16
      exact bodyPost_ret (v:=.tuple #[(.agg #[.int .u64 (lo f.num.natAbs),.string (bg f.num.natAbs),.bool (f.num<0),.int .u64 (lo (f.den - 1)),.string (bg (f.den - 1))]),.bool true]) (by simp [results,Tryz.results22,go_sem,lx2 _ r0]) rfl ⟨rfl,I.out.1⟩
     ·obtain ⟨rfl,rfl⟩:(0:Rat)=z∧false=b:=by have e9:=qZ3 HBK.out HGO.out (fun h=>hfit h.2);exact ⟨e9.1.symm,e9.2.symm⟩
      have HFI:=lh_ hfit
      clear hfar hfit
      have lx0:=kc0_ I
      have lx1:=kc1_ I
      have lx8:=kc3_ I
      refine qL1 fun K O T Y=>?_
      iterate 5 refine tk ?_
      refine ck Tryz.call34 (fun w' hw=>rFar f m true _ (decide_eq_true (HFA.out)) om om) ?_
      iterate 6 refine tk ?_
      refine ck Tryz.call33 (fun w' hw=>ql8 f a m false _ (decide_eq_false (HFI.out)) om om om) ?_
      refine tk2_ ?_
      refine nlS Y I fun vw8 J=>?_
      clear Y T I lx0 lx1 lx8
      go_wp2
      refine kF_ O (((J.out).er 1).er 0) fun Wx14 I=>?_;clear O K
      clear J
      refine wp_cond_true (by rfl) ?_
      refine ks1_ fun K O T Y=>?_
      refine tk ?_
      refine nlS Y I fun vw9 J=>?_
      clear Y T I
      have lx2:=kc0_ J;have fx2:=kf0_ J
      have r0:=Gr.refl vw9
      go_wp2
      refine kO O ?_;clear O K
      clear r0 lx2 fx2
      refine fH ((((J.out).put2 0 0 rfl).put2 0 2 rfl).put 0 4 _ rfl) fun Wx15 I=>?_
      clear J
      refine wp_ret ?_
      try simp only [Exit.then,Exit.inBlock,Exit.noGoto]
      have lx2:=kc0_ I
      have r0:=Gr.refl Wx15
      exact bodyPost_ret (v:=.tuple #[(.agg #[.int .u64 0,.string ⟨#[]⟩,.bool false,.int .u64 0,.string ⟨#[]⟩]),.bool false]) (by simp [results,Tryz.results22,go_sem,lx2 _ r0]) rfl ⟨rfl,I.out.1⟩
    ·obtain ⟨rfl,rfl⟩:(0:Rat)=z∧false=b:=by have e9:=qZ3 HBK.out HGO.out (fun h=>hfar h.1);exact ⟨e9.1.symm,e9.2.symm⟩
     have HFA:=lh_ hfar
     clear hfar
     have lx0:=kc0_ I
     have lx1:=kc1_ I
     have lx8:=kc3_ I
     refine qL1 fun K O T Y=>?_
     iterate 5 refine tk ?_
     refine ck Tryz.call34 (fun w' hw=>rFar f m false _ (decide_eq_false (HFA.out)) om om) ?_
     refine tk3_ ?_
     iterate 5 refine sk ?_
     refine tk ?_
     refine nlS Y I fun vw8 J=>?_
     clear Y T I lx0 lx1 lx8
     go_wp2
     refine kF_ O (((J.out).er 1).er 0) fun Wx14 I=>?_;clear O K
     clear J
     refine wp_cond_true (by rfl) ?_
     refine ks1_ fun K O T Y=>?_
     refine tk ?_
     refine nlS Y I fun vw9 J=>?_
     clear Y T I
     have lx2:=kc0_ J;have fx2:=kf0_ J
     have r0:=Gr.refl vw9
     go_wp2
     refine kO O ?_;clear O K
     clear r0 lx2 fx2
     refine fH ((((J.out).put2 0 0 rfl).put2 0 2 rfl).put 0 4 _ rfl) fun Wx15 I=>?_
     clear J
     refine wp_ret ?_
     try simp only [Exit.then,Exit.inBlock,Exit.noGoto]
     have lx2:=kc0_ I
     have r0:=Gr.refl Wx15
     exact bodyPost_ret (v:=.tuple #[(.agg #[.int .u64 0,.string ⟨#[]⟩,.bool false,.int .u64 0,.string ⟨#[]⟩]),.bool false]) (by simp [results,Tryz.results22,go_sem,lx2 _ r0]) rfl ⟨rfl,I.out.1⟩
   ·have HSG:=lh_ hv
    obtain ⟨f,HFQ⟩:∃ z,Hid (mkRat y (Int.natAbs v)=z):=⟨_,lh_ rfl⟩
    have HD0:Hid (0<Int.natAbs v):=lh_ om
    have HGO:Hid (∀ g,rfar g m→rfit g a m→f=g):=lh_ (fun g h1 h2=>by rw [← HFQ.out];exact (qP1 HI.out HFR.out h1 h2).1 HSG.out)
    clear hv
    refine wp_seq ?_
    have lx1:=kc1_ I
    have lx5:=kc4_ I
    refine kS fun K O=>?_
    refine xe8 fun T Y=>?_
    refine tk2_ ?_
    refine ck Tryz.call100 (fun w' hw=>qf2 y _) ?_
    refine ck Tryz.call99 (fun w' hw=>qz_ y.natAbs m true _ (decide_eq_true (HFR.out)) om om) ?_
    refine nlD Y I fun vw4 J=>?_
    clear Y T I lx1 lx5
    go_wp2
    refine kO O ?_;clear O K
    have I:=J;clear J
    refine wp_cond_false (by rfl) ?_
    refine wp_exit ?_
    show Code.wp _ _ _ _ _
    refine wp_seq ?_
    have lx7:=kc6_ I
    refine ks3_ fun K O T Y=>?_
    refine tk ?_
    refine ck Tryz.call101 (fun w' hw=>qv0 v (1) _ (by have e9:(0:Int)<(v):=(by exact HSG.out);exact xj8 e9)) ?_
    refine tk ?_
    refine nlS Y I fun vw5 J=>?_
    clear Y T I lx7
    go_wp2
    refine kF_ O (((J.out).er 5).er 3) fun Wx11 I=>?_;clear O K
    clear J
    refine wp_cond_false (by rfl) ?_
    refine wp_skip ?_
    show Code.wp _ _ _ _ _
    have HZ5:Hid (mkRat y v.natAbs=f):=lh_ (HFQ.out)
    have su5:sz f≤300:=by have e:=HZ5.out;first|omega|(rw [← e];exact qj1 (k:=300) om om (by decide))
    have lx5:=kc3_ I
    have lx7:=kc4_ I
    refine kS fun K O=>?_
    refine qa1 8 [7] [6] (fun _=>14) (fun _=>.cells #[.int .u64 0,.string ⟨#[]⟩,.bool false,.int .u64 0,.string ⟨#[]⟩] 36) [(true,0),(true,1),(true,2),(true,3),(true,4),(true,5),(true,6)] (by kernel_rfl) (by kernel_rfl) (by intro i hi;simp only [List.mem_cons,List.not_mem_nil,or_false] at hi;rcases hi with rfl <;> exact ⟨_,rfl,rfl,rfl,by simp,fun ρ w=>by kernel_rfl⟩) (by intro i hi;simp only [List.mem_cons,List.not_mem_nil,or_false] at hi;rcases hi with rfl <;> exact ⟨_,rfl,qa_⟩) (fun _ _ _ _ _ h=>h) (fun T Y=>?_)
    refine tk2_ ?_
    refine ck Tryz.call100 (fun w' hw=>qf2 v _) ?_
    refine ck Tryz.call102 (fun w' hw=>qv9 y v.natAbs f _ (lh_ HZ5.out) (by exact HD0.out) om om) ?_
    refine tk3_ ?_
    refine qa0 (Y.out _ _ ?_)
    intro G vw6 hg hf
    simp only [puts,Act.put,lA,lB,lC,lD,lE,↓reduceIte,Nat.reduceEqDiff]
    have J:=lh_ (I.out.fr hg hf (zs:=[(#[.int .u64 0,.string ⟨#[]⟩,.bool false,.int .u64 0,.string ⟨#[]⟩],36)]) rfl (by decide) (by decide))
    simp only [zq1_,zq2_,zq3_,zq4_,lF,lG] at J
    clear Y T I hg hf lx5 lx7
    generalize G 7=gx8 at *
    have lx8:=kc5_ J;have fx8:=kf5_ J
    have r0:=Gr.refl vw6
    go_wp2
    refine kO O ?_;clear O K
    clear r0 lx8 fx8
    refine fH ((((((J.out).put2 5 0 rfl).put2 5 2 rfl).put 5 4 _ rfl).er 4).er 3) fun Wx13 I=>?_
    clear J
    refine wp_seq ?_
    by_cases hfar:rfar f m
    ·have HFA:=lh_ hfar
     by_cases hfit:rfit f a m
     ·obtain ⟨rfl,rfl⟩:f=z∧true=b:=by have e9:=qy1 HBK.out hfar hfit;exact ⟨e9.1.symm,e9.2.symm⟩
      have HFI:=lh_ hfit
      clear hfar hfit
      have lx0:=kc0_ I
      have lx1:=kc1_ I
      have lx8:=kc3_ I
      refine qL1 fun K O T Y=>?_
      iterate 5 refine tk ?_
      refine ck Tryz.call34 (fun w' hw=>rFar f m true _ (decide_eq_true (HFA.out)) om om) ?_
      iterate 6 refine tk ?_
      refine ck Tryz.call33 (fun w' hw=>ql8 f a m true _ (decide_eq_true (HFI.out)) om om om) ?_
      refine tk2_ ?_
      refine nlS Y I fun vw7 J=>?_
      clear Y T I lx0 lx1 lx8
      go_wp2
      refine kF_ O (((J.out).er 1).er 0) fun Wx14 I=>?_;clear O K
      clear J
      refine wp_cond_false (by rfl) ?_
      refine wp_skip ?_
      show Code.wp _ _ _ _ _
      have lx8:=kc1_ I
      refine ks1_ fun K O T Y=>?_
      refine tk ?_
      refine nlS Y I fun vw8 J=>?_
      clear Y T I lx8
      have lx2:=kc0_ J;have fx2:=kf0_ J
      have r0:=Gr.refl vw8
      go_wp2
      refine kO O ?_;clear O K
      clear r0 lx2 fx2
      refine fH (((((J.out).put2 0 0 rfl).put2 0 2 rfl).put 0 4 _ rfl).er 1) fun Wx16 I=>?_
      clear J
      refine wp_ret ?_
      try simp only [Exit.then,Exit.inBlock,Exit.noGoto]
      have lx2:=kc0_ I
      have r0:=Gr.refl Wx16
      exact bodyPost_ret (v:=.tuple #[(.agg #[.int .u64 (lo f.num.natAbs),.string (bg f.num.natAbs),.bool (f.num<0),.int .u64 (lo (f.den - 1)),.string (bg (f.den - 1))]),.bool true]) (by simp [results,Tryz.results22,go_sem,lx2 _ r0]) rfl ⟨rfl,I.out.1⟩
     ·obtain ⟨rfl,rfl⟩:(0:Rat)=z∧false=b:=by have e9:=qZ3 HBK.out HGO.out (fun h=>hfit h.2);exact ⟨e9.1.symm,e9.2.symm⟩
      have HFI:=lh_ hfit
      clear hfar hfit
      have lx0:=kc0_ I
      have lx1:=kc1_ I
      have lx8:=kc3_ I
      refine qL1 fun K O T Y=>?_
      iterate 5 refine tk ?_
      refine ck Tryz.call34 (fun w' hw=>rFar f m true _ (decide_eq_true (HFA.out)) om om) ?_
      iterate 6 refine tk ?_
      refine ck Tryz.call33 (fun w' hw=>ql8 f a m false _ (decide_eq_false (HFI.out)) om om om) ?_
      refine tk2_ ?_
      refine nlS Y I fun vw7 J=>?_
      clear Y T I lx0 lx1 lx8
      go_wp2
      refine kF_ O (((J.out).er 1).er 0) fun Wx14 I=>?_;clear O K
      clear J
      refine wp_cond_true (by rfl) ?_
      refine ks1_ fun K O T Y=>?_
      refine tk ?_
      refine nlS Y I fun vw8 J=>?_
      clear Y T I
      have lx2:=kc0_ J;have fx2:=kf0_ J
      have r0:=Gr.refl vw8
      go_wp2
      refine kO O ?_;clear O K
      clear r0 lx2 fx2
      refine fH ((((J.out).put2 0 0 rfl).put2 0 2 rfl).put 0 4 _ rfl) fun Wx15 I=>?_
      clear J
      refine wp_ret ?_
      try simp only [Exit.then,Exit.inBlock,Exit.noGoto]
      have lx2:=kc0_ I
      have r0:=Gr.refl Wx15
      exact bodyPost_ret (v:=.tuple #[(.agg #[.int .u64 0,.string ⟨#[]⟩,.bool false,.int .u64 0,.string ⟨#[]⟩]),.bool false]) (by simp [results,Tryz.results22,go_sem,lx2 _ r0]) rfl ⟨rfl,I.out.1⟩
    ·obtain ⟨rfl,rfl⟩:(0:Rat)=z∧false=b:=by have e9:=qZ3 HBK.out HGO.out (fun h=>hfar h.1);exact ⟨e9.1.symm,e9.2.symm⟩
     have HFA:=lh_ hfar
     clear hfar
     have lx0:=kc0_ I
     have lx1:=kc1_ I
     have lx8:=kc3_ I
     refine qL1 fun K O T Y=>?_
     iterate 5 refine tk ?_
     refine ck Tryz.call34 (fun w' hw=>rFar f m false _ (decide_eq_false (HFA.out)) om om) ?_
     refine tk3_ ?_
     iterate 5 refine sk ?_
     refine tk ?_
     refine nlS Y I fun vw7 J=>?_
     clear Y T I lx0 lx1 lx8
     go_wp2
     refine kF_ O (((J.out).er 1).er 0) fun Wx14 I=>?_;clear O K
     clear J
     refine wp_cond_true (by rfl) ?_
     refine ks1_ fun K O T Y=>?_
     refine tk ?_
     refine nlS Y I fun vw8 J=>?_
     clear Y T I
     have lx2:=kc0_ J;have fx2:=kf0_ J
     have r0:=Gr.refl vw8
     go_wp2
     refine kO O ?_;clear O K
     clear r0 lx2 fx2
     refine fH ((((J.out).put2 0 0 rfl).put2 0 2 rfl).put 0 4 _ rfl) fun Wx15 I=>?_
     clear J
     refine wp_ret ?_
     try simp only [Exit.then,Exit.inBlock,Exit.noGoto]
     have lx2:=kc0_ I
     have r0:=Gr.refl Wx15
     exact bodyPost_ret (v:=.tuple #[(.agg #[.int .u64 0,.string ⟨#[]⟩,.bool false,.int .u64 0,.string ⟨#[]⟩]),.bool false]) (by simp [results,Tryz.results22,go_sem,lx2 _ r0]) rfl ⟨rfl,I.out.1⟩
  ·have HI2:=lh_ (qZ4 HI.out (xu5 hf))
   have HYN:Hid (y≠0):=lh_ (fun e=>by subst e;have:=(xE9 HI.out).1;simp at hf;omega)
   have HNF:=lh_ hf
   clear hf
   obtain ⟨q,HQ⟩:∃ z,Hid (x / y=z):=⟨_,lh_ rfl⟩
   rw [HQ.out] at HI2
   obtain ⟨y2,HY2⟩:∃ z,Hid (x - q*y=z):=⟨_,lh_ rfl⟩
   rw [HY2.out] at HI2
   obtain ⟨v2,HV2⟩:∃ z,Hid (u - q*v=z):=⟨_,lh_ rfl⟩
   rw [HV2.out] at HI2
   obtain ⟨_,hwy2,_,hwv2⟩:=xh8 HI2.out hwm
   refine wp_seq ?_
   have lx1:=kc1_ I
   have lx5:=kc4_ I
   refine kS fun K O=>?_
   refine xe8 fun T Y=>?_
   refine tk2_ ?_
   refine ck Tryz.call100 (fun w' hw=>qf2 y _) ?_
   refine ck Tryz.call99 (fun w' hw=>qz_ y.natAbs m false _ (decide_eq_false (by have e9:=HNF.out;exact e9)) om om) ?_
   refine nlD Y I fun vw4 J=>?_
   clear Y T I lx1 lx5
   go_wp2
   refine kO O ?_;clear O K
   have I:=J;clear J
   refine wp_cond_true (by rfl) ?_
   refine wp_skip ?_
   show Code.wp _ _ _ _ _
   refine wp_block ?_
   have HZ5:Hid (x / y=q):=lh_ (HQ.out)
   have su5:wl q.natAbs≤301:=by have e:=HZ5.out;first|omega|(rw [← e];have:=qi0 x y;omega)
   have HZ6:Hid (x % y=(x % y)):=lh_ (rfl)
   have su6:wl (Int.natAbs ((x % y)))≤300:=by have:=ql2 x y (by exact HYN.out);omega
   have lx4:=kc3_ I
   have lx5:=kc4_ I
   refine ks7_ fun K O T Y=>?_
   refine tk2_ ?_
   refine ck Tryz.call42 (fun w' hw=>qx_ x y q ((x % y)) _ HZ5.out HZ6.out (by exact HYN.out) om om) ?_
   iterate 4 refine tk ?_
   refine nlS Y I fun vw5 J=>?_
   clear Y T I lx4 lx5
   go_wp2
   refine kF_ O (((J.out).aL (vw5.heap.size)).aL (vw5.heap.size+1)) fun Wx7 I=>?_;clear O K
   clear J
   generalize vw5.heap.size+1=gx9 at *
   generalize vw5.heap.size=gx8 at *
   refine wp_seq ?_
   refine ks2_ fun K O T Y=>?_
   refine tk2_ ?_
   refine nlS Y I fun vw6 J=>?_
   clear Y T I
   go_wp2
   refine kO O ?_;clear O K
   have I:=J;clear J
   refine wp_cond_false (by rfl) ?_
   refine wp_skip ?_
   show Code.wp _ _ _ _ _
   have HZ7:Hid (x - q*(y)=y2):=lh_ (HY2.out)
   have su7:wl y2.natAbs≤300:=by have e:=HZ7.out;first|omega|(rw [← e];have e1:=qd7 q y;have e2:=qj4 x (q*(y));omega)
   have lx4:=kc3_ I
   have lx5:=kc4_ I
   have lx8:=kc7_ I
   refine ks8_ fun K O T Y=>?_
   iterate 4 refine tk ?_
   refine qq2 rfl (by rfl) (by rfl) Tryz.call97 (fun w' hw=>qz8 q x y _ y2 _ (lh_ rfl) (lh_ HZ7.out) om om om) (by rfl) ?_
   simp only [Act.put,lA,lB,lC]
   refine tk3_ ?_
   refine nlS Y I fun vw7 J=>?_
   clear Y T I lx4 lx5 lx8
   have lx4:=kc3_ J;have fx4:=kf3_ J
   have lx5:=kc4_ J;have fx5:=kf4_ J
   have r0:=Gr.refl vw7
   obtain ⟨d4_5,d5_4⟩:=J.out.ne 3 4 rfl rfl (by decide)
   go_wp2
   refine kO O ?_;clear O K
   clear r0 lx4 fx4 lx5 fx5 d4_5 d5_4
   refine fH (((((J.out).put2 3 0 rfl).put 3 2 _ rfl).put2 4 0 rfl).put 4 2 _ rfl) fun Wx9 I=>?_
   clear J
   have HZ8:Hid (u - q*(v)=v2):=lh_ (HV2.out)
   have su8:wl v2.natAbs≤300:=by have e:=HZ8.out;first|omega|(rw [← e];have e1:=qd7 q v;have e2:=qj4 u (q*(v));omega)
   have lx6:=kc5_ I
   have lx7:=kc6_ I
   have lx8:=kc7_ I
   refine kL fun K O=>?_
   refine sq8_ fun T Y=>?_
   iterate 4 refine tk ?_
   refine qq2 rfl (by rfl) (by rfl) Tryz.call97 (fun w' hw=>qz8 q u v _ v2 _ (lh_ rfl) (lh_ HZ8.out) om om om) (by rfl) ?_
   simp only [Act.put,lA,lB,lC]
   refine tk3_ ?_
   refine nlS Y I fun vw8 J=>?_
   clear Y T I lx6 lx7 lx8
   have lx6:=kc5_ J;have fx6:=kf5_ J
   have lx7:=kc6_ J;have fx7:=kf6_ J
   have r0:=Gr.refl vw8
   obtain ⟨d6_7,d7_6⟩:=J.out.ne 5 6 rfl rfl (by decide)
   go_wp2
   refine O.out _ _ ?_;clear O K
   try simp only [Exit.then,Exit.inBlock]
   clear r0 lx6 fx6 lx7 fx7 d6_7 d7_6
   have I:=lh_ (((((J.out).put2 (u1:=(.int .u64 (lo v.natAbs))) (u2:=(.string (bg v.natAbs))) 5 0 rfl).put 5 2 ((.bool (v<0))) rfl).put2 (u1:=(.int .u64 (lo v2.natAbs))) (u2:=(.string (bg v2.natAbs))) 6 0 rfl).put 6 2 ((.bool (v2<0))) rfl);clear J
   refine h0_ _ _ ?_
   go_roundg (Int.natAbs y2)
   case measure=>have h9:=xl3 HI2.out;omega
   case rel=>exact ⟨_,_,_,_,_,HI2,Nat.le_refl _,lh_ (((I.out).er 8).er 7)⟩
theorem qt3 (a:Int) (m:Nat) (z:Rat) (b:Bool) (w:World) (h:bk a m z b) (ha:wl a.natAbs≤300) (hm:wl m≤300) :
  Calls Tryz.prog 22 #[(Value.agg #[.int .u64 (lo a.natAbs),.string (bg a.natAbs),.bool (a<0)]),(Value.agg #[.int .u64 (lo m),.string (bg m)])] w fun e w'=>e=.returned (.tuple #[(Value.agg #[.int .u64 (lo z.num.natAbs),.string (bg z.num.natAbs),.bool (z.num<0),.int .u64 (lo (z.den - 1)),.string (bg (z.den - 1))]),.bool b])∧Below w.heap.size w w':=by
 by_cases h0:m=0
 ·obtain ⟨rfl,rfl⟩:(0:Rat)=z∧false=b:=by subst h0;have e9:=xE7 h;exact ⟨e9.1.symm,e9.2.symm⟩
  exact xq4 a m w (lh_ h0)
 ·exact xq5 a _ m z b w (lh_ h) (lh_ rfl) (lh_ (xE8 om)) om ha hm
end Go.Proofs.YtobojnodohjiaaaGreatDoor
