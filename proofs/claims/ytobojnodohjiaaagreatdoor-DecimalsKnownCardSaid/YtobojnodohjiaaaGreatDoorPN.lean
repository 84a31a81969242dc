/- A pack of texts: QRef, PRef. No condition but those stated. -/
import Derived.Test.YtobojnodohjiaaaGreatDoorPT
import Derived.Test.YtobojnodohjiaaaGreatDoorZrA
import Derived.Test.YtobojnodohjiaaaGreatDoorPV
import Derived.Test.YtobojnodohjiaaaGreatDoorHp
import Derived.Test.YtobojnodohjiaaaGreatDoorPW
import Derived.Test.YtobojnodohjiaaaGreatDoorDecA
import Derived.Test.YtobojnodohjiaaaGreatDoorPL
set_option maxRecDepth 100000
set_option maxHeartbeats 16000000
set_option linter.unusedVariables false
set_option linter.unusedSimpArgs false
namespace Go.Proofs.YtobojnodohjiaaaGreatDoor
open Go.RowKit
attribute [local go_sem ↓] Go.wp_at_zero Go.wp_at_succ
attribute [local go_sem ↓] eq_nat eq_nat_zero eq_int
theorem qv2 (q:Rat):tw (Int.natAbs (q.floor))≤rz q+1:=by
 rw [Rat.floor_def]
 exact Nat.le_trans (qs4 _ _) (by have:=qf5 q;omega)
theorem qU0 (a:Rat) (z:Int) (va1 va2:Value) (w:World) (HZ:Hid (a.floor=z)) (hs:rz a≤10000000) (bx21:Rn w va1 a.num.natAbs) (bx22:Rn w va2 (a.den - 1)) :
  Calls Tryz.prog 144 #[.agg #[.bool (decide (a.num<0)),va1,va2]] w fun e w'=>(∃ r1:Value,e=.returned (.agg #[.bool (z<0),r1])∧Rn w' r1 z.natAbs)∧Gr w w':=by
 have hn_q:tw a.num.natAbs≤10000000:=Nat.le_trans (qf5 a) hs
 have hp_q:=a.den_pos
 obtain ⟨ao_va1,n_va1,c_va1,rfl⟩:=Rn.sl bx21
 obtain ⟨ao_va2,n_va2,c_va2,rfl⟩:=Rn.sl bx22
 go_enter Tryz.func144,Tryz.ntmps144
 have I:=lh_ (hp0 w)
 replace I:=lh_ ((I.out.ar bx21).ar bx22)
 simp only [lF,lG] at I
 clear bx21 bx22
 refine kSl fun K O=>?_;go_wp2
 refine kF_ O (al2_ I) fun Wx0 J=>?_;clear O K
 clear I;have I:=J;clear J
 generalize w.heap.size+1=gx24 at *
 obtain ⟨u1,HZ1⟩:=ex_ ((a.den:Int))
 have su1:tw u1.natAbs≤10000000:=by rw [← HZ1.out];rw [Int.natAbs_natCast];exact Nat.le_trans (qd1 _) om
 have HZ2:Hid ((a.num) / u1=z):=lh_ (by rw [← HZ.out,Rat.floor_def];simp only [← HZ1.out])
 have su2:tw z.natAbs≤10000001:=by have e:=HZ2.out;first|omega|(rw [← e];have:=qs4 (a.num) u1;omega)
 obtain ⟨u3,HZ3⟩:=ex_ ((a.num) % u1)
 have su3:tw u3.natAbs≤10000000:=by rw [← HZ3.out];have:=qx9 (a.num) u1 (by simp only [← HZ1.out];omega);omega
 have lx23:=kc2_ I
 refine kS fun K O=>?_
 have HG0:Hid (Gr Wx0 Wx0):=lh_ (Gr.refl _)
 refine qa1 10 [8,9] [7] (fun i=>if i=8 then 3 else 4) (fun i=>if i=8 then .cells #[.bool false,.slice none 0 0] 45 else .cells #[.bool false,.slice none 0 0] 45) [(true,0),(true,1),(true,2),(false,3),(false,4),(true,5),(true,6),(true,7)] (by kernel_rfl) (by kernel_rfl) zb1_ zb3_ (fun _ _ _ _ _ h=>h) (fun T Y=>?_)
 refine tk3_ ?_
 refine ce1 Tryz.call215 HG0 (fun w' hw=>qC0 a u1 _ _ _ HZ1.out om (I.out.r 0 rfl (HG0.out.trans hw)) (I.out.r 1 rfl (HG0.out.trans hw))) ?_;clear HG0;intro vv26 HG0 _ ao1 nn1 cc1 RN26
 clear lx23;have lx23:=fun w' (h:Gr _ w')=>kc2_ I w' (HG0.out.trans h)
 refine ce2 Tryz.call218 HG0 (fun w' hw=>xi0 (a.num) u1 z u3 _ _ _ HZ2.out HZ3.out (by simp only [← HZ3.out,← HZ1.out];omega) om om (I.out.r 0 rfl (HG0.out.trans hw)) (RN26.out.gr hw)) ?_;clear HG0;intro vv27 HG0 HGS ao2 nn2 cc2 ao3 nn3 cc3 RN27 RN28
 replace RN26:=lh_ (RN26.out.gr HGS.out)
 clear HGS
 clear lx23;have lx23:=fun w' (h:Gr _ w')=>kc2_ I w' (HG0.out.trans h)
 refine tk3_ ?_
 refine qa0 (Y.out _ _ ?_)
 intro G vw1 hg hf
 simp only [puts,Act.put,lA,lB,lC,lD,lE,↓reduceIte,Nat.reduceEqDiff]
 have J:=lh_ ((((I.out.fr (HG0.out.trans hg) hf (zs:=[(#[.bool false,.slice none 0 0],45),(#[.bool false,.slice none 0 0],45)]) rfl (by decide) (by decide)).ar (RN26.out.gr hg)).ar (RN27.out.gr hg)).ar (RN28.out.gr hg))
 simp only [zq1_,zq2_,zq3_,zq4_,lF,lG] at J
 clear Y T I hg hf HG0 RN26 RN27 RN28 lx23
 generalize G 8=gx29 at *
 generalize G 9=gx30 at *
 have lx29:=kc4_ J;have fx29:=kf4_ J
 have lx30:=kc5_ J;have fx30:=kf5_ J
 have r0:=Gr.refl vw1
 obtain ⟨d29_30,d30_29⟩:=J.out.ne 4 5 rfl rfl (by decide)
 go_wp2
 refine kO O ?_;clear O K
 clear r0 lx29 fx29 lx30 fx30 d29_30 d30_29
 refine fH (((((((((J.out).put2 4 0 rfl).put2 5 0 rfl).er 8).er 6).er 5).er 2).er 1).er 0) fun Wx1 I=>?_
 clear J
 have lx29:=kc1_ I
 refine ks1_ fun K O T Y=>?_
 refine tk ?_
 refine nlS Y I fun vw2 J=>?_
 clear Y T I lx29
 have lx24:=kc0_ J;have fx24:=kf0_ J
 have r0:=Gr.refl vw2
 go_wp2
 refine kO O ?_;clear O K
 clear r0 lx24 fx24
 refine fH (((J.out).put2 0 0 rfl).er 1) fun Wx2 I=>?_
 clear J
 refine wp_ret ?_
 try simp only [Exit.then,Exit.inBlock]
 have lx24:=kc0_ I
 have r0:=Gr.refl Wx2
 exact bR ⟨⟨(.slice ao2 nn2 cc2),rfl,(I.out.rn 1 rfl)⟩,I.out.1⟩ (by simp [results,Tryz.results144,go_sem,lx24 _ r0])
end Go.Proofs.YtobojnodohjiaaaGreatDoor

set_option maxRecDepth 100000
set_option maxHeartbeats 16000000
set_option linter.unusedVariables false
set_option linter.unusedSimpArgs false
namespace Go.Proofs.YtobojnodohjiaaaGreatDoor
open Go.RowKit
attribute [local go_sem ↓] Go.wp_at_zero Go.wp_at_succ
attribute [local go_sem ↓] eq_nat eq_nat_zero eq_int
theorem qx2 {k:Nat} (h:k≤100):rz ((10:Rat) ^ k)≤26:=by
 refine qo3 ?_ ?_
 ·rw [Rat.num_pow,show (10:Rat).num=((10:Nat):Int) from rfl,← Int.natCast_pow,Int.natAbs_natCast]
  exact Nat.le_trans (qc2 (Nat.pow_le_pow_right (by decide) h)) (qc0.2 (by decide +kernel))
 rw [Rat.den_pow,show (10:Rat).den=1 from rfl,Nat.one_pow];exact qc0.2 (by decide +kernel)
theorem qG0 (a z:Rat) (k:Nat) (va1 va2:Value) (w:World) (HZ:Hid (a*(10:Rat) ^ k=z)) (hk:k≤100) (hs:rz a≤9000) (bx21:Rn w va1 a.num.natAbs) (bx22:Rn w va2 (a.den - 1)) :
  Calls Tryz.prog 247 #[.agg #[.bool (decide (a.num<0)),va1,va2],.int .i64 (((k:Nat):Int))] w fun e w'=>(∃ r1 r2:Value,e=.returned (.agg #[.bool (decide (z.num<0)),r1,r2])∧Rn w' r1 z.num.natAbs∧Rn w' r2 (z.den - 1))∧Gr w w':=by
 obtain ⟨ao_va1,n_va1,c_va1,rfl⟩:=Rn.sl bx21
 obtain ⟨ao_va2,n_va2,c_va2,rfl⟩:=Rn.sl bx22
 go_enter Tryz.func247,Tryz.ntmps247
 have I:=lh_ (hp0 w)
 replace I:=lh_ ((I.out.ar bx21).ar bx22)
 simp only [lF,lG] at I
 clear bx21 bx22
 refine kSl fun K O=>?_;go_wp2
 refine kF_ O (al2_ I) fun Wx0 J=>?_;clear O K
 clear I;have I:=J;clear J
 generalize w.heap.size+1=gx24 at *
 refine wp_seq ?_
 refine kSl fun K O=>?_;go_wp2
 refine kF_ O (I.out) fun Wx1 J=>?_;clear O K
 clear I;have I:=J;clear J
 refine wp_block ?_
 replace I:=lh_ ((I.out.er 0).ar (I.out.rn 0 rfl))
 simp only [List.eraseIdx_cons_zero,List.eraseIdx_cons_succ,List.cons_append,List.nil_append] at I
 replace I:=lh_ ((I.out.er 0).ar (I.out.rn 0 rfl))
 simp only [List.eraseIdx_cons_zero,List.eraseIdx_cons_succ,List.cons_append,List.nil_append] at I
 go_loopg [5] k (fun kk iv wr=>∃ (i:Nat) (q:Rat) (va vb:Value),iv=.int .i64 (i:Int)∧i+kk=k∧Hid (a*(10:Rat) ^ i=q)∧Hid (HP w wr [Sum.inl (w.heap.size,47,#[.bool (decide (q.num<0)),va,vb]),Sum.inl (gx24,47,#[.bool false,.slice none 0 0,.slice none 0 0]),Sum.inr (va,Int.natAbs (q.num)),Sum.inr (vb,q.den - 1)]))
 case atStart=>exact ⟨0,a,_,_,rfl,by omega,lh_ (by rw [Rat.pow_zero,Rat.mul_one]),I⟩
 case round =>
  rename_i J_ K_ hj1_ hj0_
  clear I
  obtain ⟨i,q,va,vb,rfl,hik,HQ,I⟩:=hrel
  obtain ⟨aoA,nnA,ccA,rfl⟩:=Rn.sl (I.out.rn 2 rfl)
  obtain ⟨aoB,nnB,ccB,rfl⟩:=Rn.sl (I.out.rn 3 rfl)
  have hsq:rz q≤10000:=by rw [← HQ.out];have e1:=qn4 a ((10:Rat) ^ i);have e2:=qx2 (k:=i) om;omega
  rcases gk with _|kk
  ·obtain rfl:k=i:=by omega
   have HE:Hid (z=q):=lh_ (by rw [← HZ.out];exact HQ.out)
   obtain rfl:=HE.out
   clear HE
   refine wp_seq ?_
   have hlt9:¬ (k:Int)<(k:Int):=by omega
   refine ks3_ fun K O T Y=>?_
   refine tk3_ ?_
   refine nz Y I O ?_;clear Y T I O K;intro vw1 I
   clear hlt9
   refine wp_cond_false (by rfl) ?_
   refine wp_exit ?_
   show Code.wp _ _ _ _ _
   have lx23:=kc0_ I
   refine ks1_ fun K O T Y=>?_
   refine tk ?_
   refine nlS Y I fun vw2 J=>?_
   clear Y T I lx23
   have lx24:=kc1_ J;have fx24:=kf1_ J
   have r0:=Gr.refl vw2
   go_wp2
   refine kO O ?_;clear O K
   clear r0 lx24 fx24
   refine fH ((((J.out).put2 1 0 rfl).put 1 2 _ rfl).er 0) fun Wx5 I=>?_
   clear J
   refine wp_ret ?_
   try simp only [Exit.then,Exit.inBlock]
   have lx24:=kc0_ I
   have r0:=Gr.refl Wx5
   exact bR ⟨⟨(.slice aoA nnA ccA),(.slice aoB nnB ccB),rfl,(I.out.rn 1 rfl),(I.out.rn 2 rfl)⟩,I.out.1⟩ (by simp [results,Tryz.results247,go_sem,lx24 _ r0])
  obtain ⟨q',HQ'⟩:∃ z,Hid (q*(10:Rat)=z):=⟨_,lh_ rfl⟩
  refine wp_seq ?_
  have hlt9:(i:Int)<(k:Int):=by omega
  refine ks3_ fun K O T Y=>?_
  refine tk3_ ?_
  refine nz Y I O ?_;clear Y T I O K;intro vw1 I
  clear hlt9
  refine wp_cond_true (by rfl) ?_
  refine wp_skip ?_
  show Code.wp _ _ _ _ _
  refine wp_seq ?_
  refine wp_block ?_
  have HZ1:Hid (((10:Int):Rat)=(10:Rat)):=lh_ (by decide +kernel)
  have su1:rz ((10:Rat))≤5:=qo3 (qc0.2 (by decide +kernel)) (qc0.2 (by decide +kernel))
  have HZ2:Hid (q*(10:Rat)=q'):=lh_ (HQ'.out)
  have su2:rz q'≤20000:=by have e:=HZ2.out;first|omega|(rw [← e];have:=qn4 q (10:Rat);omega)
  have lx23:=kc0_ I
  refine kL fun K O=>?_
  have HG0:Hid (Gr vw1 vw1):=lh_ (Gr.refl _)
  refine xH_ fun T Y=>?_
  refine tk ?_
  refine ce2 Tryz.call173 HG0 (fun w' hw=>qg3 (10) (10:Rat) _ HZ1.out om om) ?_;clear HG0;intro vv26 HG0 _ ao1 nn1 cc1 ao2 nn2 cc2 RN26 RN27
  clear lx23;have lx23:=fun w' (h:Gr _ w')=>kc0_ I w' (HG0.out.trans h)
  refine ce2 Tryz.call135 HG0 (fun w' hw=>qu4 q (10:Rat) q' _ _ _ _ _ HZ2.out om om (I.out.r 2 rfl (HG0.out.trans hw)) (I.out.r 3 rfl (HG0.out.trans hw)) (RN26.out.gr hw) (RN27.out.gr hw)) ?_;clear HG0;intro vv28 HG0 HGS ao3 nn3 cc3 ao4 nn4 cc4 RN28 RN29
  replace RN26:=lh_ (RN26.out.gr HGS.out)
  replace RN27:=lh_ (RN27.out.gr HGS.out)
  clear HGS
  clear lx23;have lx23:=fun w' (h:Gr _ w')=>kc0_ I w' (HG0.out.trans h)
  refine qa0 (Y.out _ _ ?_)
  intro G vw2 hg hf
  simp only [puts,Act.put,lA,lB,lC,lD,lE,↓reduceIte,Nat.reduceEqDiff]
  have J:=lh_ (((((I.out.gr (HG0.out.trans hg)).ar (RN26.out.gr hg)).ar (RN27.out.gr hg)).ar (RN28.out.gr hg)).ar (RN29.out.gr hg))
  simp only [zq1_,zq2_,zq3_,zq4_,lF,lG] at J
  clear Y T I hg hf HG0 RN26 RN27 RN28 RN29 lx23
  have lx23:=kc0_ J;have fx23:=kf0_ J
  have r0:=Gr.refl vw2
  go_wp2
  refine kO O ?_;clear O K
  clear r0 lx23 fx23
  refine fH (((J.out).put2 0 0 rfl).put 0 2 _ rfl) fun Wx4 I=>?_
  clear J
  have hwi:IntKind.i64.wrap ((i:Int)+1)=(i:Int)+1:=by rw [IntKind.wrap_i64];omega
  refine kL fun K O=>?_
  refine sq3_ fun T Y=>?_
  refine tk3_ ?_
  refine nlS Y I fun vw3 J=>?_
  clear Y T I
  go_wp2
  refine O.out _ _ ?_;clear O K
  try simp only [Exit.then,Exit.inBlock]
  have I:=lh_ (J.out);clear J
  clear hwi
  refine hj0_ _ _ ?_
  go_roundg kk
  case measure=>omega
  case rel=>exact ⟨i+1,q',_,_,rfl,by omega,lh_ (by rw [← HQ'.out,← HQ.out,Rat.pow_succ,Rat.mul_assoc]),lh_ (((((I.out).er 5).er 4).er 3).er 2)⟩
end Go.Proofs.YtobojnodohjiaaaGreatDoor

set_option linter.unusedVariables false
set_option linter.unusedSimpArgs false
namespace Go.Proofs.YtobojnodohjiaaaGreatDoor
open Go.RowKit
theorem qm4 (k:Nat):(0:Rat)<(((10 ^ k:Nat):Int):Rat):=Rat.intCast_pos.2 (by have:=Nat.pow_pos (n:=k) (show 0<10 by decide);omega)
theorem xf1 (k j:Nat):(((10 ^ (k+j):Nat):Int):Rat)=(((10 ^ k:Nat):Int):Rat)*(((10 ^ j:Nat):Int):Rat):=by
 rw [Nat.pow_add,Int.natCast_mul,Rat.intCast_mul]
theorem xk8 (x:Rat):((x.floor:Int):Rat)≤x:=Rat.floor_le x
theorem xP4 (x:Rat):x<((x.floor:Int):Rat)+1:=by have:=Rat.lt_floor_add_one x;rwa [Rat.intCast_add] at this
theorem xF0 (x:Rat):x≤((x.ceil:Int):Rat):=@Rat.le_ceil x
theorem qX7 {x y:Rat} (h:x≤y):x.ceil≤y.ceil:=Rat.ceil_le_iff.2 (Rat.le_trans h (xF0 y))
theorem xr_ (x:Rat):(-x).floor = -(x.ceil):=by rw [Rat.ceil_eq_neg_floor_neg];omega
theorem xr8 (x:Rat):(-x).ceil = -(x.floor):=by rw [Rat.ceil_eq_neg_floor_neg,Rat.neg_neg]
theorem qE5 {x:Rat} (h:((x.floor:Int):Rat)=x):x.ceil=x.floor:=by
 have:((x.floor:Int):Rat).ceil=x.floor:=Rat.ceil_intCast _
 rw [h] at this;exact this
theorem qj9 {x:Rat} (h:¬ ((x.floor:Int):Rat)=x):x.ceil=x.floor+1:=by
 have a:=Rat.ceil_le_iff.2 (show x≤((x.floor+1:Int):Rat) from by rw [Rat.intCast_add];exact Rat.le_of_lt (xP4 x))
 have b:x.floor<x.ceil:=Rat.lt_ceil_iff.2 (Rat.lt_of_le_of_ne (xk8 x) h)
 omega
theorem xe7 {a:Rat}:sgQ a<0 ↔ a<0:=by
 rcases qk3 a with ⟨h,e⟩|⟨h,e⟩|⟨h,e⟩ <;> rw [e] <;> constructor <;> intro hh <;> first|exact h|decide|(exact absurd hh (by decide))|(exfalso;grind)
theorem xA6 {a:Rat}:sgQ a=0 ↔ a=0:=by
 rcases qk3 a with ⟨h,e⟩|⟨h,e⟩|⟨h,e⟩ <;> rw [e] <;> constructor <;> intro hh <;> first|exact h|rfl|(exact absurd hh (by decide))|(exfalso;grind)
theorem rnd3 (x:Rat):rnd 3 x=if 2*x<2*(x.floor:Rat)+1∨(2*x=2*(x.floor:Rat)+1∧x.floor % 2=0) then x.floor else x.ceil:=by
 unfold rnd
 rw [if_neg (by decide),if_neg (by decide)]
 have e1:(x - (x.floor:Rat))+(x - (x.floor:Rat)) - 1<0 ↔ 2*x<2*(x.floor:Rat)+1:=by constructor <;> intro h <;> grind
 have e2:(x - (x.floor:Rat))+(x - (x.floor:Rat)) - 1=0 ↔ 2*x=2*(x.floor:Rat)+1:=by constructor <;> intro h <;> grind
 simp only [xe7,xA6,e1,e2]
theorem qJ5 (w:Int) (n:Int):rnd w (n:Rat)=n:=by
 rcases qF9 w (n:Rat) with h|h <;> rw [h]
 ·exact Rat.floor_intCast n
 exact Rat.ceil_intCast n
theorem xe1 (w:Int) (x:Rat):x.floor≤rnd w x∧rnd w x≤x.ceil:=by
 have:x.floor≤x.ceil:=Int.le_trans (Int.le_refl _) (by have:=Rat.le_trans (xk8 x) (xF0 x);exact Rat.intCast_le_intCast.1 this)
 rcases qF9 w x with h|h <;> rw [h] <;> omega
theorem xo5 {w:Int} {x y:Rat} (h:x≤y):rnd w x≤rnd w y:=by
 by_cases h1:w=1
 ·subst h1;exact Rat.floor_monotone h
 by_cases h2:w=2
 ·subst h2;exact qX7 h
 have e:∀ z,rnd w z=rnd 3 z:=fun z=>by unfold rnd;rw [if_neg h1,if_neg h2,if_neg (show ¬ (3:Int)=1 by decide),if_neg (show ¬ (3:Int)=2 by decide)]
 rw [e,e]
 have hf:=Rat.floor_monotone h
 by_cases hxy:x.floor=y.floor
 ·have hc:=qX7 h
  rw [rnd3,rnd3,← hxy]
  by_cases c2:2*y<2*(x.floor:Rat)+1∨(2*y=2*(x.floor:Rat)+1∧x.floor % 2=0)
  ·rw [if_pos c2,if_pos]
   ·exact Int.le_refl _
   rcases c2 with c|⟨c,d⟩
   ·left;grind
   rcases Rat.le_iff_lt_or_eq.1 h with h|h
   ·left;grind
   right;exact ⟨by rw [← c,h],d⟩
  rw [if_neg c2]
  split
  ·rw [hxy];exact (xe1 2 y).1
  exact hc
 have h3:=(xe1 3 x).2
 have h4:=(xe1 3 y).1
 have h5:x.ceil≤x.floor+1:=by
  by_cases h:((x.floor:Int):Rat)=x
  ·rw [qE5 h];omega
  rw [qj9 h];omega
 omega
theorem xo6 (x:Rat):rnd 1 (-x) = -(rnd 2 x):=xr_ x
theorem xo7 (x:Rat):rnd 2 (-x) = -(rnd 1 x):=xr8 x
theorem xo8 (x:Rat):rnd 3 (-x) = -(rnd 3 x):=by
 rw [rnd3,rnd3,xr_,xr8]
 by_cases hi:((x.floor:Int):Rat)=x
 ·rw [qE5 hi];simp
 have hc:=qj9 hi
 have hcq:((x.ceil:Int):Rat)=(x.floor:Rat)+1:=by rw [hc,Rat.intCast_add];rfl
 have hn:(((-(x.ceil)):Int):Rat) = -(x.floor:Rat) - 1:=by rw [Rat.intCast_neg,hcq];grind
 rw [hn]
 have hp:(-(x.ceil)) % 2=0 ↔ ¬ x.floor % 2=0:=by omega
 simp only [hp]
 generalize ((x.floor:Int):Rat)=f
 by_cases h1:2*x<2*f+1
 ·rw [if_neg (show ¬ (2 * -x<2*(-f - 1)+1∨2 * -x=2*(-f - 1)+1∧¬ x.floor % 2=0) from fun h=>by rcases h with h|⟨h,_⟩ <;> grind),if_pos (show 2*x<2*f+1∨2*x=2*f+1∧x.floor % 2=0 from .inl h1)]
 by_cases h2:2*x=2*f+1
 ·by_cases h3:x.floor % 2=0
  ·rw [if_neg (show ¬ (2 * -x<2*(-f - 1)+1∨2 * -x=2*(-f - 1)+1∧¬ x.floor % 2=0) from fun h=>by rcases h with h|⟨h,h4⟩; grind;exact h4 h3),if_pos (show 2*x<2*f+1∨2*x=2*f+1∧x.floor % 2=0 from .inr ⟨h2,h3⟩)]
  rw [if_pos (show 2 * -x<2*(-f - 1)+1∨2 * -x=2*(-f - 1)+1∧¬ x.floor % 2=0 from .inr ⟨by grind,h3⟩),if_neg (show ¬ (2*x<2*f+1∨2*x=2*f+1∧x.floor % 2=0) from fun h=>by rcases h with h|⟨_,h⟩; exact h1 h;exact h3 h)]
 rw [if_pos (show 2 * -x<2*(-f - 1)+1∨2 * -x=2*(-f - 1)+1∧¬ x.floor % 2=0 from .inl (by grind)),if_neg (show ¬ (2*x<2*f+1∨2*x=2*f+1∧x.floor % 2=0) from fun h=>by rcases h with h|⟨h,_⟩; exact h1 h;exact h2 h)]
theorem qh_ (w:Int) (a:Rat) (k:Nat):rdd w a k*(((10 ^ k:Nat):Int):Rat)=((rnd w (a*(((10 ^ k:Nat):Int):Rat)):Int):Rat):=by
 unfold rdd
 rw [Rat.mkRat_eq_div]
 exact Rat.div_mul_cancel (fun e=>by have:=qm4 k;rw [Rat.intCast_natCast,e] at this;exact Rat.lt_irrefl this)
theorem qh9 {a b:Rat} {k:Nat} (h:a*(((10 ^ k:Nat):Int):Rat)=b*(((10 ^ k:Nat):Int):Rat)):a=b:=by
 have hp:=qm4 k
 rcases (show a<b∨a=b∨b<a by grind) with h1|h1|h1
 ·have:=Rat.mul_lt_mul_of_pos_right h1 hp;rw [h] at this;exact absurd this Rat.lt_irrefl
 ·exact h1
 have:=Rat.mul_lt_mul_of_pos_right h1 hp;rw [h] at this;exact absurd this Rat.lt_irrefl
theorem qJ3 {w v:Int} {a:Rat} {k:Nat} (h:∀ x,rnd w (-x) = -(rnd v x)):rdd w (-a) k = -(rdd v a k) :=
 qh9 (k:=k) (by rw [qh_,Rat.neg_mul,Rat.neg_mul,qh_,h,Rat.intCast_neg])
theorem qb2 (a:Rat) (k:Nat):rdd 1 (-a) k = -(rdd 2 a k):=qJ3 xo6
theorem qb_ (a:Rat) (k:Nat):rdd 2 (-a) k = -(rdd 1 a k):=qJ3 xo7
theorem qb6 (a:Rat) (k:Nat):rdd 3 (-a) k = -(rdd 3 a k):=qJ3 xo8
theorem qO_ {w:Int} {a b:Rat} {k:Nat} (h:a≤b):rdd w a k≤rdd w b k:=by
 refine Rat.le_of_mul_le_mul_right (c:=(((10 ^ k:Nat):Int):Rat)) ?_ (qm4 k)
 rw [qh_,qh_,Rat.intCast_le_intCast]
 exact xo5 (Rat.mul_le_mul_of_nonneg_right h (Rat.le_of_lt (qm4 k)))
theorem xd9 (a:Rat) (k:Nat):rdd 1 a k≤a:=by
 refine Rat.le_of_mul_le_mul_right (c:=(((10 ^ k:Nat):Int):Rat)) ?_ (qm4 k)
 rw [qh_];exact xk8 _
theorem xI_ (a:Rat) (k:Nat):a≤rdd 2 a k:=by
 have h:=xd9 (-a) k
 rw [qb2] at h
 exact Rat.neg_le_neg_iff.1 h
theorem xG5 {a:Rat} {k:Nat} {n:Int} {b:Rat} (hb:b*(((10 ^ k:Nat):Int):Rat)=(n:Rat)) (h:b≤a):b≤rdd 1 a k:=by
 refine Rat.le_of_mul_le_mul_right (c:=(((10 ^ k:Nat):Int):Rat)) ?_ (qm4 k)
 rw [qh_,hb,Rat.intCast_le_intCast]
 exact Rat.le_floor_iff.2 (by rw [← hb];exact Rat.mul_le_mul_of_nonneg_right h (Rat.le_of_lt (qm4 k)))
theorem qw_ (a:Rat) {p q:Nat} (h:p≤q):rdd 1 a p≤rdd 1 a q:=by
 obtain ⟨j,rfl⟩:∃ j,q=p+j:=⟨q - p,by omega⟩
 refine xG5 (n:=rnd 1 (a*(((10 ^ p:Nat):Int):Rat))*((10 ^ j:Nat):Int)) ?_ (xd9 a p)
 rw [xf1,← Rat.mul_assoc,qh_,Rat.intCast_mul]
theorem qF6 (a:Rat) {p q:Nat} (h:p≤q):rdd 2 a q≤rdd 2 a p:=by
 have h1:=qw_ (-a) h
 rw [qb2,qb2] at h1
 exact Rat.neg_le_neg_iff.1 h1
theorem xz1 (w v:Int) (a:Rat) (k:Nat):rdd v (rdd w a k) k=rdd w a k :=
 qh9 (k:=k) (by rw [qh_,qh_,qJ5])
theorem xJ0 (w:Int) (a:Rat) (k:Nat):rdd w a k=rdd 1 a k∨rdd w a k=rdd 2 a k:=by
 unfold rdd
 rcases qF9 w (a*(((10 ^ k:Nat):Int):Rat)) with h|h
 ·left;rw [h];rfl
 right;rw [h];rfl
theorem qq1 (n:Nat):((1 / 10:Rat)) ^ n*(((10 ^ n:Nat):Int):Rat)=1:=by
 induction n with
 | zero=>decide +kernel
 | succ n ih =>
  rw [Rat.pow_succ,xf1 n 1]
  have e:(((10 ^ 1:Nat):Int):Rat)=10:=by decide +kernel
  rw [e]
  have e2:(1 / 10:Rat)*10=1:=by decide +kernel
  calc (1 / 10:Rat) ^ n*(1 / 10)*((((10 ^ n:Nat):Int):Rat)*10)=((1 / 10:Rat) ^ n*(((10 ^ n:Nat):Int):Rat))*((1 / 10)*10):=by grind
   _=1:=by rw [ih,e2,Rat.mul_one]
theorem qu_ (n:Nat):(0:Rat)<((1 / 10:Rat)) ^ n:=Rat.pow_pos (by decide +kernel)
theorem qK2 (n:Nat):((1 / 10:Rat)) ^ n≠0:=fun e=>by have:=qu_ n;rw [e] at this;exact Rat.lt_irrefl this
theorem qp2 (a:Rat) (n:Nat):a / ((1 / 10:Rat)) ^ n=a*(((10 ^ n:Nat):Int):Rat):=by
 rw [Rat.div_def,Rat.inv_eq_of_mul_eq_one (qq1 n)]
theorem qy_ (a:Rat) (n:Nat):a / ((2:Rat)*((1 / 10:Rat)) ^ n)=a*(((10 ^ n:Nat):Int):Rat) / 2:=by
 have e:(2:Rat)*((1 / 10:Rat)) ^ n*((((10 ^ n:Nat):Int):Rat) / 2)=1:=by
  have:=qq1 n
  generalize ((1 / 10:Rat)) ^ n=s at *
  generalize (((10 ^ n:Nat):Int):Rat)=T at *
  grind
 rw [Rat.div_def,Rat.inv_eq_of_mul_eq_one e]
 grind
theorem qp1 (x:Rat):x.den=1 ↔ ((x.floor:Int):Rat)=x:=by
 constructor
 ·intro h
  have e:((x.num:Int):Rat)=x:=Rat.ext rfl h.symm
  have e1:x.floor=x.num:=by rw [Rat.floor_def,h];simp
  rw [e1,e]
 intro h;rw [← h];rfl
theorem xd_ {a:Rat} {n:Nat} (h:(a*(((10 ^ n:Nat):Int):Rat)).den=1) (w:Int):rdd w a n=a :=
 qh9 (k:=n) (by rw [qh_,← (qp1 _).1 h,qJ5,(qp1 _).1 h])
theorem xn_ {a:Rat} {n:Nat} (h:¬ (a*(((10 ^ n:Nat):Int):Rat)).den=1):rdd 1 a n<a∧a<rdd 2 a n∧rdd 2 a n - rdd 1 a n=((1 / 10:Rat)) ^ n:=by
 have hf:¬ (((a*(((10 ^ n:Nat):Int):Rat)).floor:Int):Rat)=a*(((10 ^ n:Nat):Int):Rat):=fun e=>h ((qp1 _).2 e)
 have hc:=qj9 hf
 have h1:=qh_ 1 a n
 have h2:=qh_ 2 a n
 have n1:¬ rdd 1 a n=a:=fun e=>hf (by rw [e] at h1;exact h1.symm)
 have n2:¬ rdd 2 a n=a:=fun e=>hf (by
  rw [e] at h2
  have:(a*(((10 ^ n:Nat):Int):Rat)).den=1:=by rw [h2];rfl
  exact absurd this h)
 refine ⟨Rat.lt_of_le_of_ne (xd9 a n) n1,Rat.lt_of_le_of_ne (xI_ a n) (fun e=>n2 e.symm),qh9 (k:=n) ?_⟩
 rw [qq1,Rat.sub_eq_add_neg,Rat.add_mul,Rat.neg_mul,h1,h2]
 rw [rnd1,rnd2,hc,Rat.intCast_add,Rat.add_comm,← Rat.add_assoc,Rat.neg_add_cancel,Rat.zero_add]
 rfl
theorem xb9 {a:Rat} {n:Nat} (h:rdd 3 a n=rdd 1 a n) (hn:¬ (a*(((10 ^ n:Nat):Int):Rat)).den=1):2*(a - rdd 1 a n)<((1 / 10:Rat)) ^ n∨(2*(a - rdd 1 a n)=((1 / 10:Rat)) ^ n∧(rdd 1 a n*(((10 ^ n:Nat):Int):Rat) / 2).den=1):=by
 have hf:¬ (((a*(((10 ^ n:Nat):Int):Rat)).floor:Int):Rat)=a*(((10 ^ n:Nat):Int):Rat):=fun e=>hn ((qp1 _).2 e)
 have hc:=qj9 hf
 have h1:=qh_ 1 a n
 have h3:=qh_ 3 a n
 rw [h,h1,Rat.intCast_inj,rnd1,rnd3] at h3
 have I:=qm4 n
 have hs:=qq1 n
 rw [rnd1] at h1
 have key:2*(a*(((10 ^ n:Nat):Int):Rat))<2*(((a*(((10 ^ n:Nat):Int):Rat)).floor:Int):Rat)+1∨(2*(a*(((10 ^ n:Nat):Int):Rat))=2*(((a*(((10 ^ n:Nat):Int):Rat)).floor:Int):Rat)+1∧(a*(((10 ^ n:Nat):Int):Rat)).floor % 2=0):=by
  split at h3
  ·assumption
  omega
 rcases key with k|⟨k,ke⟩
 ·left
  refine Rat.lt_of_mul_lt_mul_right (c:=(((10 ^ n:Nat):Int):Rat)) ?_ (Rat.le_of_lt I)
  rw [hs]
  have:2*(a - rdd 1 a n)*(((10 ^ n:Nat):Int):Rat)=2*(a*(((10 ^ n:Nat):Int):Rat)) - 2*(rdd 1 a n*(((10 ^ n:Nat):Int):Rat)):=by grind
  rw [this,h1]
  grind
 right
 constructor
 ·refine qh9 (k:=n) ?_
  rw [hs]
  have:2*(a - rdd 1 a n)*(((10 ^ n:Nat):Int):Rat)=2*(a*(((10 ^ n:Nat):Int):Rat)) - 2*(rdd 1 a n*(((10 ^ n:Nat):Int):Rat)):=by grind
  rw [this,h1]
  grind
 rw [h1]
 obtain ⟨j,hj⟩:∃ j,(a*(((10 ^ n:Nat):Int):Rat)).floor=j*2:=⟨(a*(((10 ^ n:Nat):Int):Rat)).floor / 2,by omega⟩
 rw [hj,Rat.intCast_mul]
 have:((j:Int):Rat)*((2:Int):Rat) / 2=(j:Rat):=Rat.mul_div_cancel (by decide +kernel)
 rw [this];rfl
theorem xx8 {a:Rat} {n:Nat} (h:rdd 3 a n=rdd 2 a n) (hn:¬ (a*(((10 ^ n:Nat):Int):Rat)).den=1):2*(rdd 2 a n - a)<((1 / 10:Rat)) ^ n∨(2*(rdd 2 a n - a)=((1 / 10:Rat)) ^ n∧(rdd 2 a n*(((10 ^ n:Nat):Int):Rat) / 2).den=1):=by
 have h':rdd 3 (-a) n=rdd 1 (-a) n:=by rw [qb6,qb2,h]
 have hn':¬ (-a*(((10 ^ n:Nat):Int):Rat)).den=1:=by rw [Rat.neg_mul,Rat.neg_den];exact hn
 have:=xb9 h' hn'
 rw [qb2] at this
 have e:-a - -(rdd 2 a n)=rdd 2 a n - a:=by grind
 rw [e] at this
 have e2:-(rdd 2 a n)*(((10 ^ n:Nat):Int):Rat) / 2 = -(rdd 2 a n*(((10 ^ n:Nat):Int):Rat) / 2):=by grind
 rw [e2,Rat.neg_den] at this
 exact this
theorem xd8 (w:Int) (a:Rat) (n:Nat):(rdd w a n*(((10 ^ n:Nat):Int):Rat)).den=1:=by rw [qh_];rfl
end Go.Proofs.YtobojnodohjiaaaGreatDoor

set_option maxRecDepth 100000
set_option maxHeartbeats 16000000
set_option linter.unusedVariables false
set_option linter.unusedSimpArgs false
namespace Go.Proofs.YtobojnodohjiaaaGreatDoor
section
open Go.RowKit
attribute [local go_sem ↓] Go.wp_at_zero Go.wp_at_succ
theorem qs0 (n m:Int) (h1:-9223372036854775808≤n) (h2:n≤9223372036854775807) (h3:-9223372036854775808≤m) (h4:m≤9223372036854775807):rz ((n:Rat) / (m:Rat))≤10:=by
 have:=xe3 (n:Rat) (m:Rat)
 have:=qz6 h1 h2
 have:=qz6 h3 h4
 omega
theorem xJ2 (n d m:Int) (z:Rat) (w:World) (HM:Hid (max d 1=m)) (HZ:Hid ((n:Rat) / (m:Rat)=z)) (h1:-9223372036854775808≤n) (h2:n≤9223372036854775807) (h3:0≤d) (h4:d≤4294967295)  :
  Calls Tryz.prog 69 #[.agg #[.int .i64 n,.int .u32 d]] w fun e w'=>(∃ r1 r2:Value,e=.returned (.agg #[.bool (decide (z.num<0)),r1,r2])∧Rn w' r1 z.num.natAbs∧Rn w' r2 (z.den - 1))∧Gr w w':=by
 have hm0:=HM.out
 have hm1:1≤m:=by omega
 have hm2:m≤4294967295:=by omega
 have hwm:IntKind.i64.wrap m=m:=by rw [IntKind.wrap_i64];omega
 go_enter Tryz.func69,Tryz.ntmps69
 have I:=lh_ (hp0 w)
 refine kSl fun K O=>?_;go_wp2
 refine kF_ O (al2_ I) fun Wx0 J=>?_;clear O K
 clear I;have I:=J;clear J
 generalize w.heap.size+1=gx1 at *
 have HZ1:Hid (((n:Int):Rat) / ((m:Int):Rat)=z):=lh_ (HZ.out)
 have su1:rz z≤10:=by have e:=HZ1.out;first|omega|(rw [← e];exact qs0 n m om om om om)
 have lx0:=kc0_ I
 refine kS fun K O=>?_
 have HG0:Hid (Gr Wx0 Wx0):=lh_ (Gr.refl _)
 refine xB5 fun T Y=>?_
 iterate 6 refine tk ?_
 refine ce2 Tryz.call180 HG0 (fun w' hw=>qw9 n m z _ HZ1.out om om om om) ?_;clear HG0;intro vv3 HG0 _ ao1 nn1 cc1 ao2 nn2 cc2 RN3 RN4
 clear lx0;have lx0:=fun w' (h:Gr _ w')=>kc0_ I w' (HG0.out.trans h)
 refine qa0 (Y.out _ _ ?_)
 intro vw1 hg
 simp only [puts,Act.put,lA,lB,lC,lD,lE,↓reduceIte,Nat.reduceEqDiff]
 have J:=lh_ (((I.out.gr (HG0.out.trans hg)).ar (RN3.out.gr hg)).ar (RN4.out.gr hg))
 simp only [zq1_,zq2_,zq3_,zq4_,lF,lG] at J
 clear Y T I hg HG0 RN3 RN4 lx0
 have lx1:=kc1_ J;have fx1:=kf1_ J
 have r0:=Gr.refl vw1
 go_wp2
 refine kO O ?_;clear O K
 clear r0 lx1 fx1
 refine fH ((((J.out).put2 1 0 rfl).put 1 2 _ rfl).er 0) fun Wx1 I=>?_
 clear J
 refine wp_ret ?_
 try simp only [Exit.then,Exit.inBlock]
 have lx1:=kc0_ I
 have r0:=Gr.refl Wx1
 exact bR ⟨⟨(.slice ao1 nn1 cc1),(.slice ao2 nn2 cc2),rfl,(I.out.rn 1 rfl),(I.out.rn 2 rfl)⟩,I.out.1⟩ (by simp [results,Tryz.results69,go_sem,lx1 _ r0])
theorem xz8 (n d:Int) (z:Rat) (w:World) (hz:qv n d=z) (h1:-9223372036854775808≤n) (h2:n≤9223372036854775807) (h3:0≤d) (h4:d≤4294967295) :
  Calls Tryz.prog 69 #[.agg #[.int .i64 n,.int .u32 d]] w fun e w'=>(∃ r1 r2:Value,e=.returned (.agg #[.bool (decide (z.num<0)),r1,r2])∧Rn w' r1 z.num.natAbs∧Rn w' r2 (z.den - 1))∧Gr w w':=xJ2 n d (max d 1) z w (lh_ rfl) (lh_ hz) h1 h2 h3 h4
theorem xR2 (n d:Int) (h1:-9223372036854775808≤n) (h2:n≤9223372036854775807) (h3:0≤d) (h4:d≤4294967295):rz (qv n d)≤10:=qs0 n (max d 1) h1 h2 om om
end
section
open Go.RowKit
attribute [local go_sem ↓] Go.wp_at_zero Go.wp_at_succ
end
end Go.Proofs.YtobojnodohjiaaaGreatDoor
