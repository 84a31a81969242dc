
/- append onto a row of one's own beside numbers of the reference (the row's cells are of another type than theirs). No condition but those stated. -/
import Derived.Test.YtobojnodohjiaaaGreatDoorDecW
import Derived.Test.YtobojnodohjiaaaGreatDoorPN
import Derived.Test.YtobojnodohjiaaaGreatDoorDecC
import Derived.Test.YtobojnodohjiaaaGreatDoorHp
import Derived.Maps.AppendAt
import Derived.Test.YtobojnodohjiaaaGreatDoorPL
set_option maxRecDepth 100000
set_option maxHeartbeats 16000000
set_option linter.unusedVariables false
set_option linter.unusedSimpArgs false
namespace Go.Proofs.YtobojnodohjiaaaGreatDoor
open Go.RowKit
attribute [local go_sem ↓] Go.wp_at_zero Go.wp_at_succ
attribute [local go_sem ↓] eq_nat eq_nat_zero eq_int
theorem xe_ {a:Rat} {k:Nat} (h1:k*nb a.num.natAbs≤262144) (h2:k*nb a.den≤262144):sz (a ^ k)≤8192 :=
 qc9 (by rw [Rat.num_pow,Int.natAbs_pow];exact qm7 _ _ h1) (by rw [Rat.den_pow];exact qm7 _ _ h2)
theorem xf0 {k:Nat} (h:k≤101):sz ((1 / 10:Rat) ^ k)≤12:=by
 have e1:((1 / 10:Rat) ^ k).num=1:=by rw [Rat.num_pow,show (1 / 10:Rat).num=1 from by decide +kernel,Int.one_pow]
 have e2:((1 / 10:Rat) ^ k).den=10 ^ k:=by rw [Rat.den_pow,show (1 / 10:Rat).den=10 from by decide +kernel]
 refine qc9 ?_ ?_
 ·rw [e1];exact Nat.le_trans (qc7 (by decide)) (by decide)
 rw [e2];exact qi3 h
theorem xd4 {x a:Rat} (h:x<a):qabs (x - a)=a - x:=by
 unfold qabs;rw [if_pos (by grind)];grind
theorem qe0 {x a:Rat} (h:a<x):qabs (x - a)=x - a:=by
 unfold qabs;rw [if_neg (by grind)]
theorem qP8 (k:Nat):(2:Rat)*((1 / 10:Rat)) ^ k≠0:=fun e=>by
 have:=qu_ k
 generalize ((1 / 10:Rat)) ^ k=s at *
 grind
theorem qz0 (k:Nat) (z:Rat) (w:World) (HZ:Hid (((1 / 10:Rat)) ^ k=z)) (hk:k≤100) :
  CB 183 #[.int .i64 (((k:Nat):Int))] w (.agg #[.int .u64 (lo z.num.natAbs),.string (bg z.num.natAbs),.bool (z.num<0),.int .u64 (lo (z.den - 1)),.string (bg (z.den - 1))]):=by
 go_enter Tryz.func183,Tryz.ntmps183
 have I:=lh_ (hp0 w)
 refine kSl fun K O=>?_;go_wp2
 refine kF_ O (al1_ I) fun Wx0 J=>?_;clear O K
 clear I;have I:=J;clear J
 have HZ1:Hid (((1:Int):Rat) / ((10:Int):Rat)=(1/10:Rat)):=lh_ (by decide +kernel)
 have su1:sz ((1/10:Rat))≤4:=qc9 (qa2.2 (by decide +kernel)) (qa2.2 (by decide +kernel))
 have HZ2:Hid ((1/10:Rat) ^ k=z):=lh_ (HZ.out)
 have su2:sz z≤8192:=by have e:=HZ2.out;first|omega|(rw [← e];exact xe_ (by rw [show nb ((1 / 10:Rat)).num.natAbs=1 from by decide +kernel];omega) (by rw [show nb ((1 / 10:Rat)).den=4 from by decide +kernel];omega))
 refine ks6_ fun K O T Y=>?_
 refine ck Tryz.call166 (fun w' hw=>qe9 (1) (10) (1/10:Rat) _ (lh_ HZ1.out) (by decide) om om om om) ?_
 refine tk ?_
 refine ck Tryz.call151 (fun w' hw=>qI6 (1/10:Rat) z k _ HZ2.out om (by rw [show nb ((1 / 10:Rat)).num.natAbs=1 from by decide +kernel];omega) (by rw [show nb ((1 / 10:Rat)).den=4 from by decide +kernel];omega) om) ?_
 refine tk3_ ?_
 refine nlS Y I fun vw1 J=>?_
 clear Y T I
 go_wp2
 refine kF_ O ((J.out).aL (vw1.heap.size)) fun Wx1 I=>?_;clear O K
 clear J
 generalize vw1.heap.size=gx2 at *
 have lx2:=kc1_ I
 refine ks1_ fun K O T Y=>?_
 refine tk ?_
 refine nlS Y I fun vw2 J=>?_
 clear Y T I lx2
 have lx0:=kc0_ J;have fx0:=kf0_ J
 have r0:=Gr.refl vw2
 go_wp2
 refine kO O ?_;clear O K
 clear r0 lx0 fx0
 refine fH (((((J.out).put2 0 0 rfl).put2 0 2 rfl).put 0 4 _ rfl).er 1) fun Wx2 I=>?_
 clear J
 refine wp_ret ?_
 try simp only [Exit.then,Exit.inBlock]
 have lx0:=kc0_ I
 have r0:=Gr.refl Wx2
 exact bR ⟨rfl,I.out.1⟩ (by simp [results,Tryz.results183,go_sem,lx0 _ r0])
end Go.Proofs.YtobojnodohjiaaaGreatDoor

set_option maxRecDepth 100000
set_option maxHeartbeats 16000000
set_option linter.unusedVariables false
set_option linter.unusedSimpArgs false
namespace Go.Proofs.YtobojnodohjiaaaGreatDoor
open Go.RowKit
attribute [local go_sem ↓] Go.wp_at_zero Go.wp_at_succ
attribute [local go_sem ↓] eq_nat eq_nat_zero eq_int
def rwz (a:Rat) (m n:Nat):Rat:=if n=0 then a*(10:Rat) ^ m else a*(10:Rat) ^ m*((10:Rat) ^ n - 1)
theorem xt5 {k:Nat} (h:k≤101):sz ((10:Rat) ^ k)≤12:=by
 refine qc9 ?_ ?_
 ·rw [Rat.num_pow,show (10:Rat).num=((10:Nat):Int) from rfl,← Int.natCast_pow,Int.natAbs_natCast];exact qi3 h
 rw [Rat.den_pow,show (10:Rat).den=1 from rfl,Nat.one_pow];exact Nat.le_trans (qc7 (by decide)) (by decide)
theorem qZ8 (a t:Rat) (m n:Nat) (b:Bool) (w:World) (HT1:Hid ((10:Rat) ^ m=t)) (hst:sz t≤12) (HB:Hid (decide ((rwz a m n).den=1)=b)) (hm:m≤101) (hn:n≤101) (hs:sz a≤400) :
  CB 184 #[(Value.agg #[.int .u64 (lo a.num.natAbs),.string (bg a.num.natAbs),.bool (a.num<0),.int .u64 (lo (a.den - 1)),.string (bg (a.den - 1))]),.int .i64 (((m:Nat):Int)),.int .i64 (((n:Nat):Int))] w ((.bool b)):=by
 go_enter Tryz.func184,Tryz.ntmps184
 have I:=lh_ (hp0 w)
 refine kSl fun K O=>?_;go_wp2
 refine kF_ O (al1_ I) fun Wx0 J=>?_;clear O K
 clear I;have I:=J;clear J
 have HZ1:Hid (((10:Int):Rat)=(10:Rat)):=lh_ (by decide +kernel)
 have su1:sz ((10:Rat))≤2:=qc9 (qa2.2 (by decide +kernel)) (qa2.2 (by decide +kernel))
 have HZ2:Hid ((10:Rat) ^ m=t):=lh_ (HT1.out)
 have su2:sz t≤12:=by have e:=HZ2.out;first|omega|(rw [← e];exact xe_ xq_ xr0)
 refine ks6_ fun K O T Y=>?_
 refine ck Tryz.call147 (fun w' hw=>qb9 (10) (10:Rat) _ HZ1.out om om) ?_
 refine tk ?_
 refine ck Tryz.call151 (fun w' hw=>qI6 (10:Rat) t m _ HZ2.out om xq_ xr0 om) ?_
 refine tk3_ ?_
 refine nlS Y I fun vw1 J=>?_
 clear Y T I
 go_wp2
 refine kF_ O ((J.out).aL (vw1.heap.size)) fun Wx1 I=>?_;clear O K
 clear J
 generalize vw1.heap.size=gx2 at *
 obtain ⟨u3,HZ3⟩:=ex_ (a*(t))
 have su3:sz u3≤412:=by rw [← HZ3.out];have:=qe2 a t;omega
 have lx0:=kc0_ I
 have lx2:=kc1_ I
 refine ks3_ fun K O T Y=>?_
 refine tk2_ ?_
 refine ck Tryz.call134 (fun w' hw=>qc5 a t u3 _ HZ3.out om om) ?_
 refine nlS Y I fun vw2 J=>?_
 clear Y T I lx0 lx2
 have lx0:=kc0_ J;have fx0:=kf0_ J
 have r0:=Gr.refl vw2
 go_wp2
 refine kO O ?_;clear O K
 clear r0 lx0 fx0
 refine fH (((((J.out).put2 0 0 rfl).put2 0 2 rfl).put 0 4 _ rfl).er 1) fun Wx2 I=>?_
 clear J
 refine wp_seq ?_
 rcases Nat.eq_zero_or_pos n with hn0|hn0
 ·have HB1:Hid (decide ((a*t).den=1)=b):=lh_ (by have e:=HB.out;unfold rwz at e;rw [if_pos hn0,HT1.out] at e;exact e)
  have HN:=lh_ hn0
  clear hn0
  have hng:¬ 0<n:=by have:=HN.out;omega
  refine ks2_ fun K O T Y=>?_
  refine tk2_ ?_
  refine nz Y I O ?_;clear Y T I O K;intro vw3 I
  clear hng
  refine wp_cond_false (by rfl) ?_
  refine wp_skip ?_
  show Code.wp _ _ _ _ _
  have lx0:=kc0_ I
  refine ks3_ fun K O T Y=>?_
  refine tk ?_
  refine ck Tryz.call146 (fun w' hw=>qa3 u3 b _ (by simp only [← HZ3.out];exact HB1.out)) ?_
  refine tk ?_
  refine nzR Y O (fun w2 hg=>(I.out.gr hg).er 0) ?_;clear Y T I lx0 O K;intro Wx6 I
  refine wp_ret ?_
  try simp only [Exit.then,Exit.inBlock]
  exact bR ⟨rfl,I.out.1⟩ (by simp [results,Tryz.results184,go_sem])
 obtain ⟨u,HU⟩:∃ u,Hid ((10:Rat) ^ n=u):=⟨_,lh_ rfl⟩
 have hsu:sz u≤12:=by rw [← HU.out];exact xt5 hn
 have HB1:Hid (decide ((a*t*(u - (1:Rat))).den=1)=b):=lh_ (by have e:=HB.out;unfold rwz at e;rw [if_neg om,HT1.out,HU.out] at e;exact e)
 have HN:=lh_ hn0
 clear hn0
 have hng:0<n:=by have:=HN.out;omega
 refine ks2_ fun K O T Y=>?_
 refine tk2_ ?_
 refine nz Y I O ?_;clear Y T I O K;intro vw3 I
 clear hng
 refine wp_cond_true (by rfl) ?_
 have HZ4:Hid (((10:Int):Rat)=(10:Rat)):=lh_ (by decide +kernel)
 have su4:sz ((10:Rat))≤2:=qc9 (qa2.2 (by decide +kernel)) (qa2.2 (by decide +kernel))
 have HZ5:Hid ((10:Rat) ^ n=u):=lh_ (HU.out)
 have su5:sz u≤12:=by have e:=HZ5.out;first|omega|(rw [← e];exact xe_ xq_ xr0)
 refine ks6_ fun K O T Y=>?_
 refine ck Tryz.call147 (fun w' hw=>qb9 (10) (10:Rat) _ HZ4.out om om) ?_
 refine tk ?_
 refine ck Tryz.call151 (fun w' hw=>qI6 (10:Rat) u n _ HZ5.out om xq_ xr0 om) ?_
 refine tk3_ ?_
 refine nlS Y I fun vw4 J=>?_
 clear Y T I
 go_wp2
 refine kF_ O ((J.out).aL (vw4.heap.size)) fun Wx4 I=>?_;clear O K
 clear J
 generalize vw4.heap.size=gx3 at *
 have HZ6:Hid (((1:Int):Rat)=(1:Rat)):=lh_ (by decide +kernel)
 have su6:sz ((1:Rat))≤2:=qc9 (qa2.2 (by decide +kernel)) (qa2.2 (by decide +kernel))
 obtain ⟨u7,HZ7⟩:=ex_ (u - (1:Rat))
 have su7:sz u7≤15:=by rw [← HZ7.out];have:=ql8 u (1:Rat);omega
 obtain ⟨u8,HZ8⟩:=ex_ (u3*(u7))
 have su8:sz u8≤427:=by rw [← HZ8.out];have:=qe2 u3 u7;omega
 have lx0:=kc0_ I
 have lx3:=kc1_ I
 refine kL fun K O=>?_
 refine pd6_ fun T Y=>?_
 refine tk2_ ?_
 refine ck Tryz.call147 (fun w' hw=>qb9 (1) (1:Rat) _ HZ6.out om om) ?_
 refine ck Tryz.call132 (fun w' hw=>qf0 u (1:Rat) u7 _ HZ7.out om om) ?_
 refine ck Tryz.call134 (fun w' hw=>qc5 u3 u7 u8 _ HZ8.out om om) ?_
 refine nlD Y I fun vw5 J=>?_
 clear Y T I lx0 lx3
 have lx0:=kc0_ J;have fx0:=kf0_ J
 have r0:=Gr.refl vw5
 go_wp2
 refine kO O ?_;clear O K
 clear r0 lx0 fx0
 refine fH (((((J.out).put2 0 0 rfl).put2 0 2 rfl).put 0 4 _ rfl).er 1) fun Wx5 I=>?_
 clear J
 have lx0:=kc0_ I
 refine ks3_ fun K O T Y=>?_
 refine tk ?_
 refine ck Tryz.call146 (fun w' hw=>qa3 u8 b _ (by simp only [← HZ8.out,← HZ7.out,← HZ3.out];exact HB1.out)) ?_
 refine tk ?_
 refine nzR Y O (fun w2 hg=>(I.out.gr hg).er 0) ?_;clear Y T I lx0 O K;intro Wx6 I
 refine wp_ret ?_
 try simp only [Exit.then,Exit.inBlock]
 exact bR ⟨rfl,I.out.1⟩ (by simp [results,Tryz.results184,go_sem])
theorem qk_ (a:Rat) (m n:Nat) (b:Bool) (w:World) (hb:decide ((rwz a m n).den=1)=b) (hm:m≤101) (hn:n≤101) (hs:sz a≤400) :
  CB 184 #[(Value.agg #[.int .u64 (lo a.num.natAbs),.string (bg a.num.natAbs),.bool (a.num<0),.int .u64 (lo (a.den - 1)),.string (bg (a.den - 1))]),.int .i64 ((m:Nat):Int),.int .i64 ((n:Nat):Int)] w (.bool b) :=
 qZ8 a _ m n b w (lh_ rfl) (xt5 hm) (lh_ hb) hm hn hs
end Go.Proofs.YtobojnodohjiaaaGreatDoor

set_option linter.unusedVariables false
set_option linter.unusedSimpArgs false
namespace Go.Proofs.YtobojnodohjiaaaGreatDoor
open Go.RowKit
theorem qV6 (f:Nat):∀ (k x:Nat),x=f ^ (wo f x k).2*(wo f x k).1
 | 0,x=>by simp [wo]
 | k+1,x=>by
  unfold wo
  split
  ·rename_i h
   have ih:=qV6 f k (x / f)
   have hd:=Nat.mul_div_cancel' (Nat.dvd_of_mod_eq_zero h)
   show x=f ^ ((wo f (x / f) k).2+1)*(wo f (x / f) k).1
   rw [Nat.pow_succ,Nat.mul_comm (f ^ _) f,Nat.mul_assoc,← ih,hd]
  simp
theorem qG_ (f:Nat):∀ (k x:Nat),(wo f x k).2<k→¬ (wo f x k).1 % f=0
 | 0,x,h=>absurd h om
 | k+1,x,h=>by
  unfold wo at h ⊢
  split
  ·rename_i h2
   rw [if_pos h2] at h
   exact qG_ f k (x / f) (by simpa using h)
  rename_i h2
  exact h2
theorem qY7 {d a:Nat}:∀ (k p j:Nat),p=10 ^ j % d→101≤j+k→a+cyr d a k p j≤100→10 ^ (cyr d a k p j) % d=1∧j<cyr d a k p j∧∀ i,j<i→i<cyr d a k p j→¬ 10 ^ i % d=1
 | 0,p,j,_,h1,h2=>by unfold cyr at h2;omega
 | k+1,p,j,hp,h1,h2=>by
  have e:p*10 % d=10 ^ (j+1) % d:=by rw [hp,Nat.pow_succ,Nat.mod_mul_mod]
  by_cases h:p*10 % d=1∨100<a+(j+1)
  ·rw [qt_ h] at h2 ⊢
   refine ⟨?_,by omega,fun i h3 h4=>by omega⟩
   rcases h with h|h
   ·rw [← e];exact h
   omega
  rw [qY8 h] at h2 ⊢
  obtain ⟨g1,g2,g3⟩:=qY7 k _ (j+1) e om h2
  refine ⟨g1,by omega,fun i h3 h4=>?_⟩
  by_cases hi:i=j+1
  ·subst hi;rw [← e];exact fun h5=>h (.inl h5)
  exact g3 i om h4
def mul9 (n:Nat):Nat:=if n=0 then 1 else 10 ^ n - 1
theorem qm5 (k:Nat):10 ^ k=2 ^ k*5 ^ k:=by rw [← Nat.mul_pow]
theorem qO1 (n:Nat):mul9 n % 2=1:=by
 unfold mul9
 split
 ·rfl
 rename_i h
 obtain ⟨k,rfl⟩:∃ k,n=k+1:=⟨n - 1,by omega⟩
 have:0<10 ^ k:=Nat.pow_pos (by decide)
 rw [Nat.pow_succ];omega
theorem qF1 (n:Nat):mul9 n % 5=1∨mul9 n % 5=4:=by
 unfold mul9
 split
 ·left;rfl
 rename_i h
 obtain ⟨k,rfl⟩:∃ k,n=k+1:=⟨n - 1,by omega⟩
 have:0<10 ^ k:=Nat.pow_pos (by decide)
 rw [Nat.pow_succ];omega
theorem qA2 {a b:Nat} (h:Nat.Coprime a b) (k:Nat):Nat.Coprime a (b ^ k):=Nat.Coprime.pow_right k h
theorem qA6 {d n:Nat} (hd:1<d):10 ^ n % d=1 ↔ d ∣ 10 ^ n - 1:=by
 have hp:0<10 ^ n:=Nat.pow_pos (by decide)
 constructor
 ·intro h
  have:=Nat.div_add_mod (10 ^ n) d
  rw [h] at this
  exact ⟨10 ^ n / d,by omega⟩
 rintro ⟨c,hc⟩
 have:10 ^ n=d*c+1:=by omega
 rw [this,Nat.mul_add_mod,Nat.mod_eq_of_lt hd]
section
variable {n:Nat} (hn:0<n) (hl:cya n+cyl n≤100)
include hn hl
theorem qj6:∃ t f:Nat,n=2 ^ t*(5 ^ f*cyd n)∧cya n=max t f∧¬ cyd n % 2=0∧¬ cyd n % 5=0∧0<cyd n:=by
 have e1:=qV6 2 101 n
 have e2:=qV6 5 101 (wo 2 n 101).1
 have ha:cya n≤100:=by omega
 unfold cya at ha
 have s1:=qG_ 2 101 n om
 have s2:=qG_ 5 101 (wo 2 n 101).1 om
 have p1:=qy0 2 101 n hn
 have p2:=qy0 5 101 _ p1
 refine ⟨_,_,e1.trans (congrArg (fun z=>2 ^ (wo 2 n 101).2*z) e2),rfl,?_,s2,p2⟩
 intro h
 apply s1
 rw [e2]
 have:=Nat.mul_mod (5 ^ (wo 5 (wo 2 n 101).1 101).2) (wo 5 (wo 2 n 101).1 101).1 2
 unfold cyd at h
 rw [this,h,Nat.mul_zero,Nat.zero_mod]
theorem qY6:Nat.Coprime (cyd n) 10:=by
 obtain ⟨t,f,_,_,h2,h5,_⟩:=qj6 hn hl
 have c2:Nat.Coprime (cyd n) 2:=by
  have:Nat.gcd 2 (cyd n)=1:=by rw [Nat.gcd_rec,show cyd n % 2=1 by omega];rfl
  rw [Nat.coprime_comm];exact this
 have c5:Nat.Coprime (cyd n) 5:=by
  have:Nat.gcd 5 (cyd n)=1:=by
   rw [Nat.gcd_rec]
   have h:cyd n % 5=1∨cyd n % 5=2∨cyd n % 5=3∨cyd n % 5=4:=by omega
   rcases h with h|h|h|h <;> rw [h]
   all_goals decide
  rw [Nat.coprime_comm];exact this
 exact Nat.Coprime.mul_right c2 c5
theorem qv7:(cyl n=0∧cyd n=1)∨(0<cyl n∧1<cyd n∧10 ^ cyl n % cyd n=1∧∀ i,0<i→i<cyl n→¬ 10 ^ i % cyd n=1):=by
 obtain ⟨t,f,_,_,_,_,hp⟩:=qj6 hn hl
 unfold cyl at hl ⊢
 by_cases h:cyd n=1
 ·left;rw [if_pos h];exact ⟨rfl,h⟩
 right
 rw [if_neg h] at hl ⊢
 obtain ⟨g1,g2,g3⟩:=qY7 (a:=cya n) 101 1 0 (by rw [Nat.pow_zero,Nat.mod_eq_of_lt om]) om hl
 exact ⟨g2,by omega,g1,g3⟩
theorem xi9:n ∣ 10 ^ cya n*mul9 (cyl n):=by
 obtain ⟨t,f,e,ha,_,_,_⟩:=qj6 hn hl
 have h1:2 ^ t*5 ^ f ∣ 10 ^ cya n:=by
  rw [qm5]
  exact Nat.mul_dvd_mul (Nat.pow_dvd_pow 2 om) (Nat.pow_dvd_pow 5 om)
 have h2:cyd n ∣ mul9 (cyl n):=by
  rcases qv7 hn hl with ⟨_,h⟩|⟨h0,h1,h2,_⟩
  ·rw [h];exact Nat.one_dvd _
  unfold mul9;rw [if_neg om]
  exact (qA6 h1).1 h2
 have h3:=Nat.mul_dvd_mul h1 h2
 rwa [Nat.mul_assoc,← e] at h3
theorem xO8 {B:Nat} (hB:cya n=B+1):¬ n ∣ 10 ^ B*mul9 (cyl n):=by
 obtain ⟨t,f,e,ha,_,_,_⟩:=qj6 hn hl
 intro h
 have m2:=qO1 (cyl n)
 have m5:=qF1 (cyl n)
 generalize mul9 (cyl n)=M at *
 rcases (show t=B+1∨f=B+1 by omega) with ht|hf
 ·subst ht
  have h1:2 ^ (B+1) ∣ 2 ^ B*(5 ^ B*M):=by
   rw [← Nat.mul_assoc,← qm5]
   exact Nat.dvd_trans ⟨_,e⟩ h
  rw [Nat.pow_succ] at h1
  have h2:=Nat.dvd_of_mul_dvd_mul_left (Nat.pow_pos (by decide)) h1
  have h3:Nat.Coprime 2 (5 ^ B):=qA2 (by decide) B
  have h4:=h3.dvd_of_dvd_mul_left h2
  omega
 subst hf
 have h1:5 ^ (B+1) ∣ 5 ^ B*(2 ^ B*M):=by
  rw [← Nat.mul_assoc,Nat.mul_comm (5 ^ B),← qm5]
  refine Nat.dvd_trans ⟨2 ^ t*cyd n,?_⟩ h
  rw [← Nat.mul_assoc,Nat.mul_comm (5 ^ (B+1)),Nat.mul_assoc];exact e
 rw [Nat.pow_succ] at h1
 have h2:=Nat.dvd_of_mul_dvd_mul_left (Nat.pow_pos (by decide)) h1
 have h3:Nat.Coprime 5 (2 ^ B):=qA2 (by decide) B
 have h4:=h3.dvd_of_dvd_mul_left h2
 omega
theorem xO9 {i:Nat} (h0:0<i) (h1:i<cyl n):¬ n ∣ 10 ^ cya n*mul9 i:=by
 obtain ⟨t,f,e,ha,_,_,_⟩:=qj6 hn hl
 rcases qv7 hn hl with ⟨h,_⟩|⟨_,g1,_,g3⟩
 ·omega
 intro h
 have h2:cyd n ∣ 10 ^ cya n*mul9 i:=Nat.dvd_trans ⟨2 ^ t*5 ^ f,by rw [Nat.mul_comm,Nat.mul_assoc];exact e⟩ h
 have h3:=(qA2 (qY6 hn hl) (cya n)).dvd_of_dvd_mul_left h2
 unfold mul9 at h3
 rw [if_neg om] at h3
 exact g3 i h0 h1 ((qA6 g1).2 h3)
theorem xO_ (h0:¬ cyl n=0):¬ n ∣ 10 ^ cya n*mul9 0:=by
 obtain ⟨t,f,e,ha,_,_,_⟩:=qj6 hn hl
 rcases qv7 hn hl with ⟨h,_⟩|⟨_,g1,_,_⟩
 ·exact absurd h h0
 intro h
 have h2:cyd n ∣ 10 ^ cya n*mul9 0:=Nat.dvd_trans ⟨2 ^ t*5 ^ f,by rw [Nat.mul_comm,Nat.mul_assoc];exact e⟩ h
 have h3:=(qA2 (qY6 hn hl) (cya n)).dvd_of_dvd_mul_left h2
 unfold mul9 at h3
 rw [if_pos rfl] at h3
 have:=Nat.le_of_dvd (by decide) h3
 omega
end
theorem xv3 (a:Rat) (N:Nat):(a*((N:Int):Rat)).den=1 ↔ a.den ∣ N:=by
 rw [Rat.den_mul,Rat.den_intCast,Rat.num_intCast,Nat.mul_one,Int.natAbs_mul,Int.natAbs_natCast]
 have hp:=a.den_pos
 have hc:Nat.Coprime a.den a.num.natAbs:=by have:=a.reduced;rwa [Nat.coprime_comm] at this
 have hg:Nat.gcd (a.num.natAbs*N) a.den=Nat.gcd N a.den:=by
  rw [Nat.gcd_comm,Nat.Coprime.gcd_mul_left_cancel_right N a.reduced,Nat.gcd_comm]
 rw [hg]
 constructor
 ·intro h
  have hd:Nat.gcd N a.den ∣ a.den:=Nat.gcd_dvd_right _ _
  have e:=Nat.mul_div_cancel' hd
  rw [h,Nat.mul_one] at e
  rw [← e];exact Nat.gcd_dvd_left _ _
 intro h
 have:Nat.gcd N a.den=a.den:=by rw [Nat.gcd_comm];exact Nat.gcd_eq_left h
 rw [this,Nat.div_self hp]
theorem qC9 (m:Nat):(10:Rat) ^ m=(((10 ^ m:Nat):Int):Rat):=by
 rw [Rat.intCast_natCast,Rat.natCast_pow];rfl
theorem xJ4 (a:Rat) (m n:Nat):rwz a m n=a*(((10 ^ m*mul9 n:Nat):Int):Rat):=by
 unfold rwz mul9
 by_cases h:n=0
 ·rw [if_pos h,if_pos h,Nat.mul_one,qC9]
 rw [if_neg h,if_neg h,Int.natCast_mul,Rat.intCast_mul,← Rat.mul_assoc,qC9,qC9]
 congr 1
 have:0<10 ^ n:=Nat.pow_pos (by decide)
 rw [show ((10 ^ n - 1:Nat):Int)=((10 ^ n:Nat):Int) - 1 by omega,Rat.intCast_sub]
 rfl
theorem qC5 (a:Rat) (m n:Nat):(rwz a m n).den=1 ↔ a.den ∣ 10 ^ m*mul9 n:=by rw [xJ4];exact xv3 _ _
theorem qM2 (a:Rat) (k:Int):(a+(k:Rat)).den=a.den:=by
 rw [Rat.add_def',Rat.den_intCast,Rat.num_intCast,Nat.mul_one]
 have hp:=a.den_pos
 rw [Rat.den_mkRat,if_neg om]
 have e:Nat.gcd a.den (a.num*((1:Nat):Int)+k*(a.den:Int)).natAbs=1:=by
  have h1:Int.gcd (a.num*((1:Nat):Int)+k*(a.den:Int)) (a.den:Int)=Int.gcd a.num (a.den:Int):=by
   rw [show a.num*((1:Nat):Int)=a.num by omega,Int.gcd_add_mul_right_left]
  have h2:Int.gcd a.num (a.den:Int)=1:=by
   have:=a.reduced
   unfold Int.gcd;rw [Int.natAbs_natCast];exact this
  rw [Nat.gcd_comm]
  unfold Int.gcd at h1 h2
  rw [Int.natAbs_natCast] at h1 h2
  rw [h1];exact h2
 rw [e,Nat.div_one]
theorem qY3 (n:Nat):(cyc n=(0,0,3)∧100<cya n+cyl n)∨(cyc n=((cya n:Int),(cyl n:Int),0)∧cya n+cyl n≤100):=by
 unfold cyc
 by_cases h:100<cya n+cyl n
 ·left;rw [if_pos h];exact ⟨rfl,h⟩
 right;rw [if_neg h];exact ⟨rfl,by omega⟩
end Go.Proofs.YtobojnodohjiaaaGreatDoor

set_option linter.unusedVariables false
set_option linter.unusedSimpArgs false
namespace Go.Proofs.YtobojnodohjiaaaGreatDoor
open Go.RowKit
theorem xr9 {d a m:Nat} (hm:10 ^ m % d=1) (ham:a+m≤100):∀ (k p j:Nat),p=10 ^ j % d→j<m→m≤j+k→cyr d a k p j≤m
 | 0,p,j,_,h1,h2=>by omega
 | k+1,p,j,hp,h1,h2=>by
  have e:p*10 % d=10 ^ (j+1) % d:=by rw [hp,Nat.pow_succ,Nat.mod_mul_mod]
  by_cases h:p*10 % d=1∨100<a+(j+1)
  ·rw [qt_ h];omega
  rw [qY8 h]
  have hne:¬ j+1=m:=by
   intro h3
   rw [h3] at e
   exact h (.inl (e.trans hm))
  exact xr9 hm ham k _ (j+1) e om om
theorem cop2 {Y:Nat} (h:Y % 2=1):Nat.Coprime 2 Y:=by
 unfold Nat.Coprime
 rw [Nat.gcd_rec,h];rfl
theorem cop5 {Y:Nat} (h:Y % 5=1∨Y % 5=4):Nat.Coprime 5 Y:=by
 unfold Nat.Coprime
 rw [Nat.gcd_rec]
 rcases h with h|h <;> rw [h] <;> decide
theorem xL2 {t i Y:Nat} (h2:Y % 2=1) (h:2 ^ t ∣ 10 ^ i*Y):t≤i:=by
 rw [qm5,Nat.mul_assoc] at h
 have c1:Nat.Coprime (2 ^ t) (5 ^ i*Y):=Nat.Coprime.mul_right (Nat.Coprime.pow t i (by decide)) (Nat.Coprime.pow_left t (cop2 h2))
 exact (Nat.pow_dvd_pow_iff_le_right (by decide)).1 (c1.dvd_of_dvd_mul_right h)
theorem xw4 {t i Y:Nat} (h5:Y % 5=1∨Y % 5=4) (h:5 ^ t ∣ 10 ^ i*Y):t≤i:=by
 rw [qm5,Nat.mul_comm (2 ^ i),Nat.mul_assoc] at h
 have c1:Nat.Coprime (5 ^ t) (2 ^ i*Y):=Nat.Coprime.mul_right (Nat.Coprime.pow t i (by decide)) (Nat.Coprime.pow_left t (cop5 h5))
 exact (Nat.pow_dvd_pow_iff_le_right (by decide)).1 (c1.dvd_of_dvd_mul_right h)
theorem xj5 {n:Nat} (hn:0<n) (ha:cya n≤100):Nat.Coprime (cyd n) 10∧0<cyd n:=by
 have e2:=qV6 5 101 (wo 2 n 101).1
 unfold cya at ha
 have s1:=qG_ 2 101 n om
 have s2:=qG_ 5 101 (wo 2 n 101).1 om
 have p1:=qy0 2 101 n hn
 have p2:=qy0 5 101 _ p1
 have h2:¬ cyd n % 2=0:=by
  intro h
  apply s1
  rw [e2]
  have:=Nat.mul_mod (5 ^ (wo 5 (wo 2 n 101).1 101).2) (wo 5 (wo 2 n 101).1 101).1 2
  unfold cyd at h
  rw [this,h,Nat.mul_zero,Nat.zero_mod]
 have h5:¬ cyd n % 5=0:=s2
 have c2:Nat.Coprime (cyd n) 2:=by rw [Nat.coprime_comm];exact cop2 om
 have c5:Nat.Coprime (cyd n) 5:=by
  have:Nat.gcd 5 (cyd n)=1:=by
   rw [Nat.gcd_rec]
   have h:cyd n % 5=1∨cyd n % 5=2∨cyd n % 5=3∨cyd n % 5=4:=by omega
   rcases h with h|h|h|h <;> rw [h]
   all_goals decide
  rw [Nat.coprime_comm];exact this
 exact ⟨Nat.Coprime.mul_right c2 c5,p2⟩
theorem qY5 {n i m:Nat} (hn:0<n) (h:n ∣ 10 ^ i*mul9 m) (hi:i+m≤100):cya n≤i∧cyl n≤m∧(m=0→cyd n=1):=by
 have e1:=qV6 2 101 n
 have e2:=qV6 5 101 (wo 2 n 101).1
 have d1:2 ^ (wo 2 n 101).2 ∣ n:=⟨_,e1⟩
 have dx:(wo 2 n 101).1 ∣ n:=⟨_,by rw [Nat.mul_comm];exact e1⟩
 have d2:5 ^ (wo 5 (wo 2 n 101).1 101).2 ∣ n:=Nat.dvd_trans ⟨_,e2⟩ dx
 have dc:cyd n ∣ n:=Nat.dvd_trans ⟨_,by rw [Nat.mul_comm];exact e2⟩ dx
 have t1:=xL2 (qO1 m) (Nat.dvd_trans d1 h)
 have t2:=xw4 (qF1 m) (Nat.dvd_trans d2 h)
 have ha:cya n≤i:=by unfold cya;omega
 obtain ⟨hc,hp⟩:=xj5 hn om
 have hd:cyd n ∣ mul9 m:=(Nat.Coprime.pow_right i hc).dvd_of_dvd_mul_left (Nat.dvd_trans dc h)
 by_cases h1:cyd n=1
 ·exact ⟨ha,by unfold cyl;rw [if_pos h1];omega,fun _=>h1⟩
 have hm:m≠0:=by
  intro hm
  rw [hm] at hd
  exact h1 (Nat.dvd_one.1 hd)
 unfold mul9 at hd
 rw [if_neg hm] at hd
 have h3:=(qA6 (show 1<cyd n by omega)).2 hd
 refine ⟨ha,?_,fun h=>absurd h hm⟩
 unfold cyl
 rw [if_neg h1]
 exact xr9 h3 om 101 1 0 (by rw [Nat.pow_zero,Nat.mod_eq_of_lt om]) om om
def rmd (a n j:Nat):Nat:=a*10 ^ j % n
theorem xo4 (a n:Nat):rmd a n 0=a % n:=by unfold rmd;rw [Nat.pow_zero,Nat.mul_one]
theorem xo3 (a n j:Nat):rmd a n (j+1)=rmd a n j*10 % n:=by
 unfold rmd;rw [Nat.pow_succ,← Nat.mul_assoc,Nat.mod_mul_mod]
theorem qC4 {a n j:Nat} (hc:Nat.Coprime a n):rmd a n j=0 ↔ n ∣ 10 ^ j:=by
 unfold rmd
 constructor
 ·intro h
  exact (Nat.Coprime.symm hc).dvd_of_dvd_mul_left (Nat.dvd_of_mod_eq_zero h)
 intro h
 exact Nat.mod_eq_zero_of_dvd (Nat.dvd_trans h (Nat.dvd_mul_left _ _))
theorem qC3 {a n i m:Nat} (hc:Nat.Coprime a n) (hm:0<m):rmd a n i=rmd a n (i+m) ↔ n ∣ 10 ^ i*mul9 m:=by
 have hm0:¬ m=0:=by omega
 have hp:0<10 ^ m:=Nat.pow_pos (by decide)
 obtain ⟨q,hq⟩:∃ q,10 ^ m=q+1:=⟨10 ^ m - 1,by omega⟩
 have e9:mul9 m=q:=by unfold mul9;rw [if_neg hm0,hq];rfl
 have e:a*10 ^ (i+m)=a*10 ^ i+a*(10 ^ i*q):=by rw [Nat.pow_add,hq,Nat.mul_add,Nat.mul_one,Nat.mul_add,Nat.add_comm]
 unfold rmd
 rw [e9,e]
 constructor
 ·intro h
  have h2:=Nat.sub_mod_eq_zero_of_mod_eq h.symm
  rw [Nat.add_sub_cancel_left] at h2
  exact (Nat.Coprime.symm hc).dvd_of_dvd_mul_left (Nat.dvd_of_mod_eq_zero h2)
 rintro ⟨c,h⟩
 rw [h,Nat.mul_left_comm,Nat.add_mul_mod_self_left]
def nst (a n k:Nat):Prop:=∀ j,j<k→j≤100→¬ rmd a n j=0∧∀ i,i<j→¬ rmd a n i=rmd a n j
theorem xm_ (a n:Nat):nst a n 0:=fun j h=>absurd h (Nat.not_lt_zero _)
theorem xm9 {a n k:Nat} (h:nst a n k) (h2:k≤100→¬ rmd a n k=0∧∀ i,i<k→¬ rmd a n i=rmd a n k):nst a n (k+1):=fun j hj h1=>by
 rcases Nat.lt_succ_iff_lt_or_eq.1 hj with h3|rfl
 ·exact h j h3 h1
 exact h2 h1
theorem qY4 {n:Nat} (h:cya n+cyl n≤100):cyc n=((cya n:Int),(cyl n:Int),0):=by unfold cyc;rw [if_neg om]
theorem xi_ {a n k:Nat} (hn:0<n) (hc:Nat.Coprime a n) (hs:nst a n k) (hk:k≤100) (h:rmd a n k=0):cyc n=((k:Int),0,0):=by
 have h1:=(qC4 hc).1 h
 obtain ⟨g1,g2,_⟩:=qY5 (i:=k) (m:=0) hn (by rw [show mul9 0=1 from rfl,Nat.mul_one];exact h1) om
 have hl:cyl n=0:=by omega
 have h2:=xi9 hn (show cya n+cyl n≤100 by omega)
 rw [hl,show mul9 0=1 from rfl,Nat.mul_one] at h2
 have h3:=(qC4 hc).2 h2
 have h4:cya n=k:=by
  rcases Nat.lt_or_ge (cya n) k with h5|h5
  ·exact absurd h3 (hs _ h5 om).1
  omega
 rw [qY4 om,hl,h4];rfl
theorem xj0 {a n i k:Nat} (hn:0<n) (hc:Nat.Coprime a n) (hs:nst a n k) (hk:k≤100) (hi:i<k) (h0:¬ rmd a n k=0) (h:rmd a n i=rmd a n k):cyc n=((i:Int),(k:Int) - (i:Int),0):=by
 obtain ⟨m,rfl⟩:∃ m,k=i+m:=⟨k - i,by omega⟩
 obtain ⟨g1,g2,_⟩:=qY5 hn ((qC3 hc om).1 h) om
 have h2:=xi9 hn (show cya n+cyl n≤100 by omega)
 have hl:0<cyl n:=by
  rcases Nat.eq_zero_or_pos (cyl n) with h3|h3
  ·rw [h3,show mul9 0=1 from rfl,Nat.mul_one] at h2
   exact absurd ((qC4 hc).2 h2) (hs _ om om).1
  exact h3
 have h3:=(qC3 hc hl).2 h2
 have h4:cya n+cyl n=i+m:=by
  rcases Nat.lt_or_ge (cya n+cyl n) (i+m) with h5|h5
  ·exact absurd h3 ((hs _ h5 om).2 _ om)
  omega
 rw [qY4 om,show cya n=i by omega,show cyl n=m by omega]
 congr 2
 omega
theorem xj1 {a n k:Nat} (hn:0<n) (hc:Nat.Coprime a n) (hs:nst a n k) (hk:100<k):cyc n=(0,0,3):=by
 unfold cyc
 rw [if_pos]
 rcases Nat.lt_or_ge 100 (cya n+cyl n) with h|h
 ·exact h
 exfalso
 have h2:=xi9 hn h
 rcases Nat.eq_zero_or_pos (cyl n) with h3|h3
 ·rw [h3,show mul9 0=1 from rfl,Nat.mul_one] at h2
  exact (hs _ om om).1 ((qC4 hc).2 h2)
 exact (hs (cya n+cyl n) om h).2 _ om ((qC3 hc h3).2 h2)
end Go.Proofs.YtobojnodohjiaaaGreatDoor

set_option linter.unusedVariables false
set_option linter.unusedSimpArgs false
namespace Go.Proofs.YtobojnodohjiaaaGreatDoor
open Go.RowKit
def RowV (b:Nat) (cur:Array Value) (k:Nat) (v:Value) (n:Nat) (xs:List Value):Prop :=
 ∃ cap,v=.slice (some ⟨b,0,none⟩) n cap∧n≤cap∧cap≤maxLen∧cur.size=cap*k∧cur.toList.take (n*k)=xs∧xs.length=n*k
section
variable {w0 W W':World} {L:List Fk} {b E k n:Nat} {cur:Array Value} {v:Value} {xs:List Value}
theorem RowV.own (h:RowV b cur k v n xs) (hB:Bx W b E cur) (hle:w0.heap.size≤b):W.ownsRow w0.heap.size E k v n xs:=by
 obtain ⟨cap,rfl,h1,h2,h3,h4,h5⟩:=h
 exact ⟨h5,.inr ⟨b,cap,cur,rfl,hle,hB,h1,h2,h3,h4⟩⟩
theorem RowV.sl (h:RowV b cur k v n xs):∃ cap,v=.slice (some ⟨b,0,none⟩) n cap:=by
 obtain ⟨cap,e,_⟩:=h;exact ⟨cap,e⟩
theorem RowV.cell (h:RowV b cur k v n xs) (hB:Bx W b E cur) (g:Gr W W') (i:Nat) (hi:i<n*k):W'.cell? ⟨b,i,none⟩=xs[i]?:=by
 obtain ⟨cap,rfl,h1,h2,h3,h4,h5⟩:=h
 rw [hB.cells W' g,← h4,List.getElem?_take_of_lt hi,Array.getElem?_toList]
theorem Rn.kept {u:Value} {m:Nat} {row:Option Nat} (h:Rn W u m) (g:W.grownBy W' row) (hne:∀ j,row=some j→u.ownBlock≠some j):Rn W' u m:=by
 refine World.ownsRow.kept h g ?_
 cases hr:row with
 | none=>cases hu:u.ownBlock with
  | none=>exact .inl rfl
  | some j=>exact .inr (by simp)
 | some j=>exact .inr (hne j hr)
end
end Go.Proofs.YtobojnodohjiaaaGreatDoor

set_option linter.unusedVariables false
set_option linter.unusedSimpArgs false
namespace Go.Proofs.YtobojnodohjiaaaGreatDoor
open Go.RowKit
def fcl (q:Rat):List Value:=[.int .u64 (lo q.num.natAbs),.string (bg q.num.natAbs),.bool (q.num<0),.int .u64 (lo (q.den - 1)),.string (bg (q.den - 1))]
def Fs (w:World) (v:Value) (n:Nat) (f:Nat→Rat):Prop :=
 (∃ ao c,v=.slice ao n c∧n=0)∨∃ b o c,v=.slice (some ⟨b,o,none⟩) n c∧b<w.heap.size∧∀ i,i<n→∀ j,j<5→w.cell? ⟨b,o+i*5+j,none⟩=(fcl (f i))[j]?
theorem Fs.gr {w w':World} {v:Value} {n:Nat} {f:Nat→Rat} (h:Fs w v n f) (hg:Gr w w'):Fs w' v n f:=by
 rcases h with h|⟨b,o,c,rfl,hb,hc⟩
 ·exact .inl h
 exact .inr ⟨b,o,c,rfl,Nat.lt_of_lt_of_le hb hg.size,fun i hi j hj=>(Below.cell hg (p:=⟨b,o+i*5+j,none⟩) hb).trans (hc i hi j hj)⟩
theorem Fs.slice {w:World} {v:Value} {n:Nat} {f:Nat→Rat} (h:Fs w v n f):∃ ao c,v=.slice ao n c:=by
 rcases h with ⟨ao,c,rfl,_⟩|⟨b,o,c,rfl,_⟩
 ·exact ⟨_,_,rfl⟩
 exact ⟨_,_,rfl⟩
end Go.Proofs.YtobojnodohjiaaaGreatDoor

set_option linter.unusedVariables false
set_option linter.unusedSimpArgs false
namespace Go.Proofs.YtobojnodohjiaaaGreatDoor
open Go.RowKit
section
variable {w0 W:World} {L:List Fk} {E k n:Nat} {v:Value} {xs:List Value}
def Apart (L:List Fk) (v:Value):Prop:=∀ (i:Nat) (x:Nat × TypeId × Array Value),L[i]?=some (Sum.inl x)→v.ownBlock≠some x.1
theorem HP.grown {W':World} {row:Option Nat} (h:HP w0 W L) (hrow:∀ j,row=some j→w0.heap.size≤j) (hM:∀ (i:Nat) (x:Nat × TypeId × Array Value),L[i]?=some (Sum.inl x)→row≠some x.1)
  (hR:∀ (i:Nat) (v:Value) (m:Nat),L[i]? ≠ some (Sum.inr (v,m))) (g:W.grownBy W' row):HP w0 W' L:=by
 obtain ⟨h1,h2,h3⟩:=h
 refine ⟨h1.grown g h1.size hrow,fun i e he=>?_,h3⟩
 have:=h2 i e he
 rcases e with ⟨c,S,ds⟩|⟨u,m⟩
 ·exact ⟨(g.block c this.1.lt (fun e=>hM i _ he e.symm)).trans this.1,this.2⟩
 exact absurd he (hR i u m)
theorem xH6 (own:W.ownsRow w0.heap.size E k v n xs):∀ j,v.ownBlock=some j→w0.heap.size≤j:=by
 obtain ⟨_,⟨rfl,_⟩|⟨g,cap,cur,rfl,h,_⟩⟩:=own
 ·intro j hj;cases hj
 intro j hj;injection hj with hj;subst hj;exact h
theorem xc6 {B:Nat} {W':World} (h:W.ownsRow B E k v n xs) (hg:Gr W W'):W'.ownsRow B E k v n xs:=by
 obtain ⟨hl,h|⟨g,cap,cur,rfl,h0,hc,h1⟩⟩:=h
 ·exact ⟨hl,.inl h⟩
 exact ⟨hl,.inr ⟨g,cap,cur,rfl,h0,Bx.gr (show Bx W g E cur from hc) hg,h1⟩⟩
end
end Go.Proofs.YtobojnodohjiaaaGreatDoor

set_option linter.unusedVariables false
set_option linter.unusedSimpArgs false
namespace Go.Proofs.YtobojnodohjiaaaGreatDoor
open Go.RowKit
section
variable {w0 W:World} {L:List Fk} {E k n:Nat} {v:Value} {xs:List Value}
theorem apZ {ops:Array Oper} {rest:List Oper} {o:Oper} {a:Act} {Q:Exit→Act→World→Prop} {ad:Addr} {m c bytes:Nat} {news:List Value} {i:TypeInfo} {z:Value} (I:Hid (HP w0 W L)) (own:Hid (W.ownsRow w0.heap.size E k v n xs)) (HA:Hid (Apart L v)) (s x:Operand) (t:TypeId)
  (hi:Tryz.prog.info? E=some i) (hz:i.zero=some z) (hsize:i.size=k) (hby:i.bytes=bytes) (hzs:z.cells.size=k) (hty:Tryz.prog.underlying t=some (.slice E)) (hE:E≠3)
  (h63:n+m≤maxLen) (hbytes:(n+m)*bytes≤140737488355328)
  (hv:a.eval s=v) (hx:a.eval x=.slice (some ad) m c) (hnews:Hid (∀ j u,news[j]?=some u→W.cell? (ad.add j)=some u)) (hl:news.length=m*k) (h1:∀ u ∈ news,u.oneCell'=true) (hk:0<k)
  (ho:o.op=.call { callee:=.builtin .append,args:=#[s,x],argTypes:=#[t,t] }) (hgd:o.guard=none)
  (h:∀ v' W',Hid (HP w0 W' L)→Hid (W'.ownsRow w0.heap.size E k v' (n+m) (xs ++ news))→Hid (Apart L v')→wpList Tryz.prog ops Q rest (a.put o.dst v') W'):wpList Tryz.prog ops Q (o :: rest) a W:=by
 refine wpList_append_own_at W hgd s x t ho w0.heap.size E i z k bytes hty hi hz hsize hby hzs hk v n xs hv own.out ad m c news hx hl hnews.out h1 h63 hbytes I.out.1.size ?_
 intro v' W' own' grown _ hat
 have hne:∀ (u:Value) (q:Nat),Rn W u q→∀ j,v.ownBlock=some j→u.ownBlock≠some j:=fun u q hu j hj=>by
  obtain ⟨_,⟨rfl,_⟩|⟨g,cap,cur,rfl,_,hc,_⟩⟩:=own.out
  ·cases hj
  injection hj with hj
  subst hj
  exact Rn.ne hu (show Bx W g E cur from hc) hE
 have hbase:HP w0 W' L:=by
  obtain ⟨g1,g2,g3⟩:=I.out
  refine ⟨g1.grown grown g1.size (xH6 own.out),fun i e he=>?_,g3⟩
  have h2:=g2 i e he
  rcases e with ⟨c,S,ds⟩|⟨u,q⟩
  ·exact ⟨(grown.block c h2.1.lt (fun e=>HA.out i _ he e.symm)).trans h2.1,h2.2⟩
  exact Rn.kept h2 grown (hne u q h2)
 refine h v' W' (lh_ hbase) (lh_ own') (lh_ fun j y hy e=>?_)
 rcases hat with ha|ha
 ·exact HA.out j y hy (ha ▸ e)
 have:=I.out.lt j y hy
 rw [e] at ha
 injection ha with ha
 omega
theorem xn0 (h:W.ownsRow w0.heap.size E 1 v n xs) (hn:0<n):∃ b cap,v=.slice (some ⟨b,0,none⟩) n cap∧b<W.heap.size∧∀ i,i<n→W.cell? ⟨b,i,none⟩=xs[i]?:=by
 obtain ⟨hl,⟨_,h0⟩|⟨b,cap,cur,rfl,hg,hc,h1,h2,h3,h4⟩⟩:=h
 ·omega
 have hB:Bx W b E cur:=hc
 refine ⟨b,cap,rfl,hB.lt,fun i hi=>?_⟩
 have hlt:i<n*1:=by omega
 rw [hB.cells W (Gr.refl _),← h4,List.getElem?_take_of_lt hlt,Array.getElem?_toList]
end
end Go.Proofs.YtobojnodohjiaaaGreatDoor
