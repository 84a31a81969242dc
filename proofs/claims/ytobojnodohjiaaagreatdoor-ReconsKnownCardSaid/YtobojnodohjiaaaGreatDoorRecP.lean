
/- plain facts of rational reconstruction. No condition but those stated. -/
import Derived.Test.YtobojnodohjiaaaGreatDoorPI
set_option linter.unusedVariables false
set_option linter.unusedSimpArgs false
namespace Go.Proofs.YtobojnodohjiaaaGreatDoor
open Go.RowKit
def rfar (f:Rat) (m:Nat):Prop:=2*(f.num.natAbs*f.num.natAbs)<m∧2*(f.den*f.den)<m
def rfit (f:Rat) (a:Int) (m:Nat):Prop:=m≠0∧Nat.gcd f.den m=1∧(f.num - a*(f.den:Int)) % (m:Int)=0
def bk (a:Int) (m:Nat) (z:Rat) (b:Bool):Prop:=(b=true∧rfar z m∧rfit z a m)∨(b=false∧z=0∧∀ g,rfar g m→¬ rfit g a m)
theorem qS7 (z:Int):0≤z*z:=by
 rcases Int.le_total 0 z with h|h
 ·exact Int.mul_nonneg h h
 ·have:=Int.mul_nonneg (show 0 ≤ -z by omega) (show 0 ≤ -z by omega)
  rwa [Int.neg_mul_neg] at this
theorem qw3 {a b m:Int} (ha:2*(a*a)<m) (hb:2*(b*b)<m):2*(a*b)<m ∧ -m<2*(a*b):=by
 have h1:=qS7 (a - b)
 have h2:=qS7 (a+b)
 have e1:(a - b)*(a - b)=a*a+b*b - 2*(a*b):=by grind
 have e2:(a+b)*(a+b)=a*a+b*b+2*(a*b):=by grind
 rw [e1] at h1
 rw [e2] at h2
 constructor <;> omega
theorem xw6 {x n m:Int} (h0:0≤x) (hx:m≤2*(x*x)) (hn:2*(n*n)<m):n<x ∧ -x<n:=by
 constructor
 ·refine Int.not_le.1 fun h=>?_
  have:=Int.mul_le_mul h h h0 (Int.le_trans h0 h)
  omega
 ·refine Int.not_le.1 fun h=>?_
  have h':x ≤ -n:=by omega
  have:=Int.mul_le_mul h' h' h0 (Int.le_trans h0 h')
  rw [Int.neg_mul_neg] at this
  omega
theorem qp3 {m k z:Int} (h:z=m*k) (h1:z<m) (h2:-m<z):z=0:=by
 rcases Int.lt_trichotomy k 0 with hk|hk|hk
 ·have:=Int.mul_le_mul_of_nonneg_left (show k ≤ -1 by omega) (show 0≤m by omega)
  omega
 ·rw [h,hk,Int.mul_zero]
 ·have:=Int.mul_le_mul_of_nonneg_left (show 1≤k by omega) (show 0≤m by omega)
  omega
theorem qL4 {n V d:Int} (h0:0≤V) (h:V≤d):(0≤n*d→0≤n*V∧n*V≤n*d)∧(n*d≤0→n*V≤0∧n*d≤n*V):=by
 rcases Int.le_total 0 n with hn|hn
 ·have h1:=Int.mul_le_mul_of_nonneg_left h hn
  have h2:=Int.mul_nonneg hn h0
  constructor <;> intro h3 <;> omega
 ·have h1:=Int.mul_le_mul_of_nonneg_left h (show 0 ≤ -n by omega)
  have h2:=Int.mul_nonneg (show 0 ≤ -n by omega) h0
  rw [Int.neg_mul] at h1 h2
  rw [Int.neg_mul] at h1
  constructor <;> intro h3 <;> omega
theorem qI0 {a m x y U V n d:Int} (h0:x*V+y*U=m) (hy:0≤y) (hx0:0≤x) (hV:0<V) (hU:0≤U) (dy:m ∣ y - a*V) (dx:m ∣ x+a*U) (hx:m≤2*(x*x)) (hf:2*(y*y)<m) (hn:2*(n*n)<m) (hd:2*(d*d)<m) (hd0:0<d) (dn:m ∣ n - a*d):n*V=y*d:=by
 obtain ⟨k1,e1⟩:=dy
 obtain ⟨k2,e2⟩:=dx
 obtain ⟨k3,e3⟩:=dn
 have hm:0<m:=by have:=qS7 y;omega
 obtain ⟨k,hk⟩:∃ k,k=k3*V - k1*d:=⟨_,rfl⟩
 have ek:n*V - y*d=m*k:=by subst hk;grind
 obtain ⟨l,hl⟩:∃ l,l=k2*d+k3*U:=⟨_,rfl⟩
 have el:x*d+n*U=m*l:=by subst hl;grind
 clear e1 e2 e3 hk hl
 have en:m*n=m*(x*k+y*l):=by grind
 have ed:m*d=m*(V*l - U*k):=by grind
 have en:=Int.eq_of_mul_eq_mul_left (by omega) en
 have ed:=Int.eq_of_mul_eq_mul_left (by omega) ed
 by_cases hVd:V≤d
 ·have b1:=qw3 hn hd
  have b2:=qw3 hf hd
  have b3:0≤y*d:=Int.mul_nonneg hy (by omega)
  have b4:=qL4 (n:=n) (Int.le_of_lt hV) hVd
  have:n*V - y*d=0:=by
   rcases Int.le_total 0 (n*d) with c|c
   ·have:=b4.1 c;exact qp3 ek (by omega) (by omega)
   ·have:=b4.2 c;exact qp3 ek (by omega) (by omega)
  omega
 ·obtain ⟨c1,c2⟩:=xw6 hx0 hx hn
  rcases Int.lt_trichotomy k 0 with hk|hk|hk
  ·exfalso
   have p1:0≤U * -k:=Int.mul_nonneg hU (by omega)
   rw [Int.mul_neg] at p1
   have hl:l≤0:=by
    refine Int.not_lt.1 fun h=>?_
    have:=Int.mul_le_mul_of_nonneg_left (show 1≤l by omega) (Int.le_of_lt hV)
    omega
   have p2:=Int.mul_le_mul_of_nonneg_left (show 1 ≤ -k by omega) hx0
   have p3:0≤y * -l:=Int.mul_nonneg hy (by omega)
   rw [Int.mul_neg] at p2 p3
   omega
  ·rw [hk,Int.mul_zero] at ek;omega
  ·exfalso
   have p1:0≤U*k:=Int.mul_nonneg hU (by omega)
   have hl:0≤l:=by
    refine Int.not_lt.1 fun h=>?_
    have:=Int.mul_le_mul_of_nonneg_left (show 1 ≤ -l by omega) (Int.le_of_lt hV)
    rw [Int.mul_neg] at this
    omega
   have p2:=Int.mul_le_mul_of_nonneg_left (show 1≤k by omega) hx0
   have p3:0≤y*l:=Int.mul_nonneg hy hl
   omega
def bki (a m x y u v s:Int):Prop:=(s=1∨s = -1)∧x*v - y*u=s*m∧0≤y∧y<x∧x≤m∧m ∣ y - a*v∧m ∣ x - a*u∧0<s*v∧s*u≤0∧m≤2*(x*x)∧u.natAbs≤m.natAbs∧v.natAbs≤m.natAbs
theorem xE8 {a m:Int} (hm:0<m):bki a m m (a % m) 0 1 1:=by
 have h1:=Int.emod_nonneg a (show m≠0 by omega)
 have h2:=Int.emod_lt_of_pos a hm
 have h3:=Int.mul_le_mul_of_nonneg_left (show 1≤m by omega) (show 0≤m by omega)
 have h4:=Int.mul_ediv_add_emod a m
 refine ⟨.inl rfl,by simp,h1,h2,Int.le_refl _,⟨-(a / m),by rw [Int.mul_neg];omega⟩,⟨1,by omega⟩,by decide,by decide,by omega,by simp,by omega⟩
theorem qP2 {m x y u v s:Int} (hs:s=1∨s = -1) (h:x*v - y*u=s*m) (hx:1≤x) (hy:0≤y) (hv:0<s*v) (hu:s*u≤0):v.natAbs≤m.natAbs:=by
 rcases hs with rfl|rfl
 ·have h1:=Int.mul_le_mul_of_nonneg_right hx (show 0≤v by omega)
  have h2:=Int.mul_nonneg hy (show 0 ≤ -u by omega)
  rw [Int.mul_neg] at h2
  omega
 ·have h1:=Int.mul_le_mul_of_nonneg_right hx (show 0 ≤ -v by omega)
  have h2:=Int.mul_nonneg hy (show 0≤u by omega)
  rw [Int.one_mul,Int.mul_neg] at h1
  omega
theorem qZ4 {a m x y u v s:Int} (h:bki a m x y u v s) (hy:m≤2*(y*y)):bki a m y (x - x / y*y) v (u - x / y*v) (-s):=by
 obtain ⟨hs,h0,y0,yx,xm,dy,dx,hv,hu,hx,ub,vb⟩:=h
 have hy1:1≤y:=by
  refine Int.not_lt.1 fun h=>?_
  obtain rfl:y=0:=by omega
  simp at hy;omega
 obtain ⟨q,hq⟩:∃ q,x / y=q:=⟨_,rfl⟩
 have e1:=Int.mul_ediv_add_emod x y
 have e2:=Int.emod_nonneg x (show y≠0 by omega)
 have e3:=Int.emod_lt_of_pos x (show 0<y by omega)
 have hq1:1≤q:=by rw [← hq];exact (Int.le_ediv_iff_mul_le (by omega)).2 (by omega)
 rw [hq] at *
 have e4:q*y=y*q:=Int.mul_comm _ _
 have hs':-s=1 ∨ -s = -1:=by omega
 have h0':y*(u - q*v) - (x - q*y)*v = -s*m:=by grind
 have hv':0 < -s*(u - q*v):=by
  have h1:0≤(q - 1)*(s*v):=Int.mul_nonneg (by omega) (by omega)
  have h2:-s*(u - q*v) = -(s*u)+(q - 1)*(s*v)+s*v:=by grind
  omega
 have hu':-s*v≤0:=by rw [Int.neg_mul];omega
 refine ⟨hs',h0',by omega,by omega,by omega,?_,dy,hv',hu',hy,vb,qP2 hs' h0' hy1 (by omega) hv' hu'⟩
 obtain ⟨k1,f1⟩:=dy
 obtain ⟨k2,f2⟩:=dx
 exact ⟨k2 - q*k1,by grind⟩
theorem xl4 {a m x y u v s n d:Int} (h:bki a m x y u v s) (hf:2*(y*y)<m) (hn:2*(n*n)<m) (hd:2*(d*d)<m) (hd0:0<d) (dn:m ∣ n - a*d):n*v=y*d:=by
 obtain ⟨hs,h0,y0,yx,xm,dy,dx,hv,hu,hx,ub,vb⟩:=h
 rcases hs with rfl|rfl
 ·exact qI0 (a:=a) (U:=-u) (V:=v) (m:=m) (x:=x) (by grind) y0 (by omega) (by omega) (by omega) dy (by rw [Int.mul_neg];exact dx) hx hf hn hd hd0 dn
 ·have h:=qI0 (a:=-a) (U:=u) (V:=-v) (m:=m) (x:=x) (n:=-n) (y:=y) (d:=d) (by grind) y0 (by omega) (by omega) (by omega) (by rw [Int.neg_mul_neg];exact dy) (by rw [Int.neg_mul];exact dx) hx hf (by rw [Int.neg_mul_neg];exact hn) hd hd0 (by obtain ⟨k,e⟩:=dn;exact ⟨-k,by grind⟩)
  rwa [Int.neg_mul_neg] at h
theorem xE9 {a m x y u v s:Int} (h:bki a m x y u v s):0<m∧0<x:=by
 obtain ⟨hs,h0,y0,yx,xm,dy,dx,hv,hu,hx,ub,vb⟩:=h
 omega
theorem xu6 {a m x y u v s:Int} (h:bki a m x y u v s):v≠0:=by
 obtain ⟨hs,h0,y0,yx,xm,dy,dx,hv,hu,hx,ub,vb⟩:=h
 rintro rfl
 simp at hv
theorem qv2 (n:Nat) (m:Nat) (h:2*(n*n)<m):2*((n:Int)*(n:Int))<(m:Int):=by
 rw [← Int.natCast_mul];omega
theorem qF2 (n:Int) (m:Nat) (h:2*(n.natAbs*n.natAbs)<m):2*(n*n)<(m:Int):=by
 have h1:=qv2 _ _ h
 rcases Int.natAbs_eq n with e|e
 ·rw [e];exact h1
 ·rw [e,Int.neg_mul_neg];exact h1
theorem qk1 {n:Int} {d:Nat} {g:Rat} (hd:d≠0) (h:g.num*(d:Int)=n*(g.den:Int)):mkRat n d=g:=by
 conv=>rhs;rw [← Rat.mkRat_self g]
 exact (Rat.mkRat_eq_iff hd g.den_nz).2 h.symm
theorem qP1 {a:Int} {m:Nat} {x y u v s:Int} {g:Rat} (h:bki a m x y u v s) (hf:2*(y.natAbs*y.natAbs)<m) (h1:rfar g m) (h2:rfit g a m):(0<v→mkRat y v.natAbs=g)∧(v<0→mkRat (-y) (-v).natAbs=g):=by
 have hg:=g.den_pos
 have e:=xl4 (n:=g.num) (d:=(g.den:Int)) h (qF2 _ _ hf) (qF2 _ _ h1.1) (qv2 _ _ h1.2) (by omega) (Int.dvd_of_emod_eq_zero h2.2.2)
 refine ⟨fun hv=>qk1 (by omega) ?_,fun hv=>qk1 (by omega) ?_⟩
 ·rw [Int.natAbs_of_nonneg (by omega)];exact e
 ·rw [Int.natAbs_of_nonneg (by omega),Int.mul_neg,Int.neg_mul,e]
theorem qP0 {a:Int} {m:Nat} {f g:Rat} (h1:rfar f m) (h2:rfit f a m) (h3:rfar g m) (h4:rfit g a m):f=g:=by
 obtain ⟨k1,e1⟩:=Int.dvd_of_emod_eq_zero h2.2.2
 obtain ⟨k2,e2⟩:=Int.dvd_of_emod_eq_zero h4.2.2
 have b1:=qw3 (qF2 _ _ h1.1) (qv2 _ _ h3.2)
 have b2:=qw3 (qF2 _ _ h3.1) (qv2 _ _ h1.2)
 have e:f.num*(g.den:Int) - g.num*(f.den:Int)=0:=by
  refine qp3 (m:=m) (k:=k1*g.den - k2*f.den) ?_ (by omega) (by omega)
  grind
 rw [← Rat.mkRat_self f]
 exact qk1 f.den_nz (by omega)
theorem qy1 {a:Int} {m:Nat} {z f:Rat} {b:Bool} (hz:bk a m z b) (h1:rfar f m) (h2:rfit f a m):z=f∧b=true:=by
 rcases hz with ⟨hb,h3,h4⟩|⟨_,_,h⟩
 ·exact ⟨qP0 h3 h4 h1 h2,hb⟩
 ·exact absurd h2 (h f h1)
theorem qZ3 {a:Int} {m:Nat} {z f:Rat} {b:Bool} (hz:bk a m z b) (H:∀ g,rfar g m→rfit g a m→f=g) (hn:¬ (rfar f m∧rfit f a m)):z=0∧b=false:=by
 rcases hz with ⟨hb,h3,h4⟩|⟨hb,h0,h⟩
 ·exact absurd (by rw [H z h3 h4];exact ⟨h3,h4⟩) hn
 ·exact ⟨h0,hb⟩
theorem xE7 {a:Int} {z:Rat} {b:Bool} (hz:bk a 0 z b):z=0∧b=false:=by
 rcases hz with ⟨hb,h3,h4⟩|⟨hb,h0,h⟩
 ·exact absurd rfl h4.1
 ·exact ⟨h0,hb⟩
theorem qO9 (a:Int) (m:Nat):∃ z b,bk a m z b:=by
 rcases Classical.em (∃ g,rfar g m∧rfit g a m) with ⟨g,h1,h2⟩|h
 ·exact ⟨g,true,.inl ⟨rfl,h1,h2⟩⟩
 ·exact ⟨0,false,.inr ⟨rfl,rfl,fun g h1 h2=>h ⟨g,h1,h2⟩⟩⟩
theorem qj8 {a:Int} {m k:Nat} {z:Rat} {b:Bool} (hz:bk a m z b) (hk:wl m≤k) (hk1:1≤k):sz z≤k:=by
 rcases hz with ⟨_,h,_⟩|⟨_,rfl,_⟩
 ·have e1:=Nat.le_mul_self z.num.natAbs
  have e2:=Nat.le_mul_self z.den
  exact qA6 (Nat.le_trans (qa4 (by have:=h.1;omega)) hk) (Nat.le_trans (qa4 (by have:=h.2;omega)) hk)
 ·exact Nat.le_trans (qA6 (qa6 (by decide)) (qa6 (by decide))) hk1
instance (f:Rat) (m:Nat):Decidable (rfar f m):=inferInstanceAs (Decidable (_∧_))
instance (f:Rat) (a:Int) (m:Nat):Decidable (rfit f a m):=inferInstanceAs (Decidable (_∧_∧_))
end Go.Proofs.YtobojnodohjiaaaGreatDoor
