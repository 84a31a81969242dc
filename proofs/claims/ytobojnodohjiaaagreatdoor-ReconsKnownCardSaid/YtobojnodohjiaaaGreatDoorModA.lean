
/- mods: mod, Mul, Inv; gussetlaw06.P. -/
import Derived.Test.YtobojnodohjiaaaGreatDoorRr7
import Derived.Test.YtobojnodohjiaaaGreatDoorHp2
set_option maxRecDepth 100000
set_option maxHeartbeats 16000000
set_option linter.unusedVariables false
set_option linter.unusedSimpArgs false
namespace Go.Proofs.YtobojnodohjiaaaGreatDoor
open Go.RowKit
attribute [local go_sem ↓] Go.wp_at_zero Go.wp_at_succ
theorem ql0 {n:Nat} (h:n<4294967296):IntKind.u32.wrap ((n:Nat):Int)=((n:Nat):Int):=by rw [IntKind.wrap_u32];omega
theorem qe5 {n:Nat} (h:n<18446744073709551616):IntKind.u64.wrap ((n:Nat):Int)=((n:Nat):Int):=by rw [IntKind.wrap_u64];omega
theorem xn_ {a b:Nat} (ha:a<4294967296) (hb:b<4294967296):a*b<18446744073709551616 :=
 Nat.lt_of_le_of_lt (Nat.mul_le_mul (show a≤4294967295 by omega) (show b≤4294967295 by omega)) (by decide)
theorem mmod (n p z:Nat) (w:World) (hz:n % p=z) (hn:n<18446744073709551616) (hp:0<p) (hp2:p<4294967296) :
  Calls Tryz.prog 208 #[.int .u64 ((n:Nat):Int),.int .u32 ((p:Nat):Int)] w fun e w'=>e=.returned (.int .u32 ((z:Nat):Int))∧Below w.heap.size w w':=by
 have h1:=Nat.mod_lt n hp
 have hp0:¬ ((p:Nat):Int)=0:=by omega
 have hp1:(((p:Nat):Int) == 0)=false:=by simpa using hp0
 have hpz:¬ p=0:=by omega
 have e1:((n:Nat):Int) % ((p:Nat):Int)=((z:Nat):Int):=by rw [← hz];rfl
 have hw1:IntKind.u64.wrap ((p:Nat):Int)=((p:Nat):Int):=qe5 om
 have hw2:IntKind.u64.wrap ((z:Nat):Int)=((z:Nat):Int):=qe5 om
 have hw3:IntKind.u32.wrap ((z:Nat):Int)=((z:Nat):Int):=ql0 om
 clear hz
 go_enter Tryz.func208,Tryz.ntmps208
 go_wp2
 exact bodyPost_ret (v:=.int .u32 ((z:Nat):Int)) (by simp [results,Tryz.results208,go_sem]) rfl ⟨rfl,Below.refl _ _⟩
theorem mmul (a b p z:Nat) (w:World) (hz:(a*b) % p=z) (ha:a<4294967296) (hb:b<4294967296) (hp:0<p) (hp2:p<4294967296) :
  Calls Tryz.prog 126 #[.int .u32 ((a:Nat):Int),.int .u32 ((b:Nat):Int),.int .u32 ((p:Nat):Int)] w fun e w'=>e=.returned (.int .u32 ((z:Nat):Int))∧Below w.heap.size w w':=by
 have h1:=xn_ ha hb
 obtain ⟨c,hc⟩:∃ c,a*b=c:=⟨_,rfl⟩
 rw [hc] at hz h1
 have e1:((a:Nat):Int)*((b:Nat):Int)=((c:Nat):Int):=by rw [← hc,Int.natCast_mul]
 have hw1:IntKind.u64.wrap ((a:Nat):Int)=((a:Nat):Int):=qe5 om
 have hw2:IntKind.u64.wrap ((b:Nat):Int)=((b:Nat):Int):=qe5 om
 have hw3:IntKind.u64.wrap ((c:Nat):Int)=((c:Nat):Int):=qe5 h1
 have HZ:=lh_ hz
 clear hz hc
 go_enter Tryz.func126,Tryz.ntmps126
 go_wp2_with fail
 refine (mmod c p z _ HZ.out h1 hp hp2).mono ?_
 rintro e w1 ⟨rfl,hb1⟩
 have HB1:=lh_ hb1
 clear hb1
 go_wp2
 exact bodyPost_ret (v:=.int .u32 ((z:Nat):Int)) (by simp [results,Tryz.results126,go_sem]) rfl ⟨rfl,HB1.out⟩
def invs (a p v:Nat) (b:Bool):Prop:=(b=true∧v<p∧(p:Int) ∣ (a:Int)*(v:Int) - 1)∨(b=false∧v=0∧Nat.gcd a p≠1)
def bkj (a m x y u v s:Int):Prop:=(s=1∨s = -1)∧x*v - y*u=s*m∧0≤y∧y<x∧x≤m∧m ∣ y - a*v∧m ∣ x - a*u∧0<s*v∧s*u≤0∧u.natAbs≤m.natAbs∧v.natAbs≤m.natAbs∧Int.gcd x y=Int.gcd a m
theorem xE_ {a m:Int} (hm:0<m):bkj a m m (a % m) 0 1 1:=by
 have h1:=Int.emod_nonneg a (show m≠0 by omega)
 have h2:=Int.emod_lt_of_pos a hm
 have h4:=Int.mul_ediv_add_emod a m
 refine ⟨.inl rfl,by simp,h1,h2,Int.le_refl _,⟨-(a / m),by rw [Int.mul_neg];omega⟩,⟨1,by omega⟩,by decide,by decide,by simp,by omega,?_⟩
 rw [Int.gcd_comm a m,show a % m=a - a / m*m by have:=Int.mul_comm m (a / m);omega]
 exact Int.gcd_sub_mul_right_right m a (a / m)
theorem qZ5 {a m x y u v s:Int} (h:bkj a m x y u v s) (hy:y≠0):bkj a m y (x - x / y*y) v (u - x / y*v) (-s):=by
 obtain ⟨hs,h0,y0,yx,xm,dy,dx,hv,hu,ub,vb,hg⟩:=h
 have hy1:1≤y:=by omega
 obtain ⟨q,hq⟩:∃ q,x / y=q:=⟨_,rfl⟩
 have e1:=Int.mul_ediv_add_emod x y
 have e2:=Int.emod_nonneg x (show y≠0 by omega)
 have e3:=Int.emod_lt_of_pos x (show 0<y by omega)
 have hq1:1≤q:=by rw [← hq];exact (Int.le_ediv_iff_mul_le om).2 om
 rw [hq] at *
 have e4:q*y=y*q:=Int.mul_comm _ _
 have hg':Int.gcd y (x - q*y)=Int.gcd a m:=by
  rw [← hg,Int.gcd_comm x y]
  exact Int.gcd_sub_mul_right_right y x q
 have hs':-s=1 ∨ -s = -1:=by omega
 have h0':y*(u - q*v) - (x - q*y)*v = -s*m:=by grind
 have hv':0 < -s*(u - q*v):=by
  have h1:0≤(q - 1)*(s*v):=Int.mul_nonneg om om
  have h2:-s*(u - q*v) = -(s*u)+(q - 1)*(s*v)+s*v:=by grind
  omega
 have hu':-s*v≤0:=by rw [Int.neg_mul];omega
 refine ⟨hs',h0',by omega,by omega,by omega,?_,dy,hv',hu',vb,qP2 hs' h0' hy1 om hv' hu',hg'⟩
 obtain ⟨k1,f1⟩:=dy
 obtain ⟨k2,f2⟩:=dx
 exact ⟨k2 - q*k1,by grind⟩
theorem xc7 {a p v u:Int} (hv0:0≤v) (hv:v<p) (hu0:0≤u) (hu:u<p) (h1:p ∣ a*v - 1) (h2:p ∣ a*u - 1):v=u:=by
 refine qw6 hv0 hv hu0 hu ?_
 obtain ⟨k1,e1⟩:=h1
 obtain ⟨k2,e2⟩:=h2
 exact ⟨u*k1 - v*k2,by grind⟩
theorem qw2 {a v:Nat} {p:Nat} (h:(p:Int) ∣ (a:Int)*(v:Int) - 1):Nat.gcd a p=1:=by
 have h1:((Nat.gcd a p:Nat):Int) ∣ (a:Int):=Int.ofNat_dvd.2 (Nat.gcd_dvd_left a p)
 have h2:((Nat.gcd a p:Nat):Int) ∣ (p:Int):=Int.ofNat_dvd.2 (Nat.gcd_dvd_right a p)
 have h3:=Int.dvd_sub (Int.dvd_trans h1 (Int.dvd_mul_right (a:Int) (v:Int))) (Int.dvd_trans h2 h)
 rw [show (a:Int)*(v:Int) - ((a:Int)*(v:Int) - 1)=1 by omega] at h3
 have:=Int.ofNat_dvd.1 (show ((Nat.gcd a p:Nat):Int) ∣ ((1:Nat):Int) from h3)
 exact Nat.dvd_one.1 this
theorem minv (a p v:Nat) (b:Bool) (w:World) (h:invs a p v b) (ha:a<4294967296) (hp:0<p) (hp2:p<4294967296) :
  Calls Tryz.prog 124 #[.int .u32 ((a:Nat):Int),.int .u32 ((p:Nat):Int)] w fun e w'=>e=.returned (.tuple #[.int .u32 ((v:Nat):Int),.bool b])∧Below w.heap.size w w':=by
 have HV:=lh_ h
 clear h
 obtain ⟨r,HR⟩:∃ r,Hid (a % p=r):=⟨_,lh_ rfl⟩
 have hr:r<p:=by rw [← HR.out];exact Nat.mod_lt _ hp
 have hp0:¬ ((p:Nat):Int)=0:=by omega
 have hpz:¬ p=0:=by omega
 have hp1:(((p:Nat):Int) == 0)=false:=by simpa using hp0
 have hw1:IntKind.i64.wrap ((p:Nat):Int)=((p:Nat):Int):=qa7 om om
 have hw2:IntKind.u64.wrap ((a:Nat):Int)=((a:Nat):Int):=qe5 om
 have hw3:IntKind.i64.wrap ((r:Nat):Int)=((r:Nat):Int):=qa7 om om
 go_enter Tryz.func124,Tryz.ntmps124
 go_wp2_with fail
 refine (mmod a p r _ HR.out om hp hp2).mono ?_
 rintro e w1 ⟨rfl,hb1⟩
 have HB1:=lh_ hb1
 clear hb1
 go_wp2
 clear hw2 hw3
 go_loopg [6,7,8,9] r (fun k xv yv uv vv wr=>∃ x y u v s:Int,xv=.int .i64 x∧yv=.int .i64 y∧uv=.int .i64 u∧vv=.int .i64 v∧wr=w1∧y.natAbs≤k∧Hid (bkj ((a:Nat):Int) ((p:Nat):Int) x y u v s))
 case atStart=>exact ⟨_,_,_,_,1,rfl,rfl,rfl,rfl,rfl,by omega,lh_ (by
  have e9:=xE_ (a:=((a:Nat):Int)) (m:=((p:Nat):Int)) om
  have e8:((a:Nat):Int) % ((p:Nat):Int)=((r:Nat):Int):=by rw [← HR.out];rfl
  rwa [e8] at e9)⟩
 case round =>
  obtain ⟨x,y,u,v',s,rfl,rfl,rfl,rfl,rfl,hyk,HI⟩:=hrel
  have hx:0≤y∧y<x∧x≤((p:Nat):Int):=⟨HI.out.2.2.1,HI.out.2.2.2.1,HI.out.2.2.2.2.1⟩
  have hub:u.natAbs≤p∧v'.natAbs≤p:=by
   obtain ⟨_,_,_,_,_,_,_,_,_,c1,c2,_⟩:=HI.out
   omega
  by_cases hy:y=0
  ·have hyf:(y == 0)=true:=by simp [hy]
   by_cases hx1:x=1
   ·have hxf:(x == 1)=true:=by simp [hx1]
    have hres:v<p∧true=b∧u % ((p:Nat):Int)=((v:Nat):Int):=by
     have hd:((p:Nat):Int) ∣ ((a:Nat):Int)*(u % ((p:Nat):Int)) - 1:=by
      obtain ⟨k,hk⟩:=HI.out.2.2.2.2.2.2.1
      have e9:=Int.mul_ediv_add_emod u ((p:Nat):Int)
      exact ⟨-k - ((a:Nat):Int)*(u / ((p:Nat):Int)),by grind⟩
     have e1:=Int.emod_nonneg u hp0
     have e2:=Int.emod_lt_of_pos u (show (0:Int)<((p:Nat):Int) by omega)
     rcases HV.out with ⟨hb,hv,hd2⟩|⟨hb,hv,hg⟩
     ·exact ⟨hv,hb.symm,xc7 e1 e2 om om hd hd2⟩
     ·exfalso
      obtain ⟨z,hz⟩:∃ z:Nat,u % ((p:Nat):Int)=(z:Int):=⟨(u % ((p:Nat):Int)).toNat,by omega⟩
      rw [hz] at hd
      exact hg (qw2 hd)
    obtain ⟨hvp,rfl,hev⟩:=hres
    have e1:=qI8 u ((p:Nat):Int) om
    rw [hev] at e1
    have e2:=qI7 u ((p:Nat):Int) om
    have hw4:IntKind.i64.wrap (Int.tmod u ((p:Nat):Int))=Int.tmod u ((p:Nat):Int):=qa7 om om
    have hw5:IntKind.i64.wrap (Int.tmod u ((p:Nat):Int)+((p:Nat):Int))=Int.tmod u ((p:Nat):Int)+((p:Nat):Int):=qa7 om om
    have hw6:IntKind.i64.wrap ((v:Nat):Int)=((v:Nat):Int):=qa7 om om
    have hw7:IntKind.u32.wrap ((v:Nat):Int)=((v:Nat):Int):=ql0 om
    clear hev hy hx1 hyk hx hub e2
    go_wp2
    exact bodyPost_ret (v:=.tuple #[.int .u32 ((v:Nat):Int),.bool true]) (by simp [results,Tryz.results124,go_sem]) rfl ⟨rfl,HB1.out⟩
   ·have hxf:(x == 1)=false:=by simpa using hx1
    have hres:0=v∧false=b:=by
     rcases HV.out with ⟨hb,hv,hd2⟩|⟨hb,hv,hg⟩
     ·exfalso
      have e9:=HI.out.2.2.2.2.2.2.2.2.2.2.2
      have e8:=qw2 hd2
      rw [hy] at e9
      have e7:Int.gcd ((a:Nat):Int) ((p:Nat):Int)=Nat.gcd a p:=rfl
      rw [e7,e8,Int.gcd_zero_right] at e9
      omega
     ·exact ⟨hv.symm,hb.symm⟩
    obtain ⟨rfl,rfl⟩:=hres
    have HX1:=lh_ hx1
    clear hx1 hy hyk hx hub
    go_wp2
    exact bodyPost_ret (v:=.tuple #[.int .u32 0,.bool false]) (by simp [results,Tryz.results124,go_sem]) rfl ⟨rfl,HB1.out⟩
  ·have hyf:(y == 0)=false:=by simpa using hy
   have HI2:=lh_ (qZ5 HI.out hy)
   have eq:Int.tdiv x y=x / y:=Int.tdiv_eq_ediv_of_nonneg om
   obtain ⟨q,hq⟩:∃ q,x / y=q:=⟨_,rfl⟩
   rw [hq] at HI2 eq
   have hq0:0≤q∧q≤x:=by
    rw [← hq]
    exact ⟨Int.ediv_nonneg om om,Int.ediv_le_self _ om⟩
   obtain ⟨y2,hy2⟩:∃ z,x - q*y=z:=⟨_,rfl⟩
   obtain ⟨v2,hv2⟩:∃ z,u - q*v'=z:=⟨_,rfl⟩
   obtain ⟨t1,ht1⟩:∃ z,q*y=z:=⟨_,rfl⟩
   obtain ⟨t2,ht2⟩:∃ z,q*v'=z:=⟨_,rfl⟩
   rw [hy2,hv2] at HI2
   have hyy:0≤y2∧y2<y:=⟨HI2.out.2.2.1,HI2.out.2.2.2.1⟩
   have hvv:v2.natAbs≤p:=by
    obtain ⟨_,_,_,_,_,_,_,_,_,c1,c2,_⟩:=HI2.out
    omega
   rw [ht1] at hy2
   rw [ht2] at hv2
   have hwq:IntKind.i64.wrap q=q:=qa7 om om
   have hw4:IntKind.i64.wrap t1=t1:=qa7 om om
   have hw5:IntKind.i64.wrap t2=t2:=qa7 om om
   have hw6:IntKind.i64.wrap y2=y2:=qa7 om om
   have hw7:IntKind.i64.wrap v2=v2:=qa7 om om
   have HYN:=lh_ hyy
   have HYK:=lh_ hyk
   clear hq hq0 hyy hvv hx hub hyk
   go_wp2
   go_roundg (Int.natAbs y2)
   case measure=>have:=HYN.out;have:=HYK.out;omega
   case rel=>exact ⟨_,_,_,_,_,rfl,rfl,rfl,rfl,rfl,Nat.le_refl _,HI2⟩
def ptab (r:Nat):Nat:=[2,3,5,7,11,101,257,10007,65537,1000003,16777259,2147483629,2147483647].getD r 2
theorem xf0 (r:Nat):0<ptab r∧ptab r<4294967296:=by
 unfold ptab
 rcases Nat.lt_or_ge r 13 with h|h
 ·have:∀ r,r<13→0 < [2,3,5,7,11,101,257,10007,65537,1000003,16777259,2147483629,2147483647].getD r 2 ∧ [2,3,5,7,11,101,257,10007,65537,1000003,16777259,2147483629,2147483647].getD r 2<4294967296:=by decide
  exact this r h
 ·rw [List.getD,List.getElem?_eq_none (by simpa using h)];decide
theorem xj0 (i z:Nat) (w:World) (hz:ptab (i % 13)=z) :
  Calls Tryz.prog 51 #[.int .u32 ((i:Nat):Int)] w fun e w'=>e=.returned (.int .u32 ((z:Nat):Int))∧Below w.heap.size w w':=by
 obtain ⟨r,hr⟩:∃ r,i % 13=r:=⟨_,rfl⟩
 have hr13:r<13:=by rw [← hr];exact Nat.mod_lt _ (by decide)
 have e1:((i:Nat):Int) % 13=((r:Nat):Int):=by rw [← hr];rfl
 rw [hr] at hz
 clear hr
 have hw0:IntKind.u32.wrap 13=13:=by decide
 have hw1:IntKind.u32.wrap ((r:Nat):Int)=((r:Nat):Int):=ql0 om
 rcases (show r=0∨r=1∨r=2∨r=3∨r=4∨r=5∨r=6∨r=7∨r=8∨r=9∨r=10∨r=11∨r=12 by omega) with rfl|rfl|rfl|rfl|rfl|rfl|rfl|rfl|rfl|rfl|rfl|rfl|rfl
 all_goals
  subst hz
  go_enter Tryz.func51,Tryz.ntmps51
  go_wp2
  exact bodyPost_ret (v:=.int .u32 _) (by simp [results,Tryz.results51,go_sem];rfl) rfl ⟨rfl,(Below.refl _ _).alloc (Nat.le_refl _) _⟩
end Go.Proofs.YtobojnodohjiaaaGreatDoor
